import PyProof.Rows.All
import Wide.All
import OpenK.AllK
import Wide.FinOn
import HandS.ForMost
import HandS.NoneIn
import HandS.IsInst
import HandS.Deep
import PyProof.Rows.SeqItemCall
import HandS.TupAny
import PyProof.P3Statements
import HandS.More
import HandS.SortInts
import HandS.SetFor
import HandS.Strs
import HandS.Sort
import HandS.RaiseMore
import KE.KDictPairs
import KE.GoesMore
import HandS.TupLe
import HandS.SortRule
import PyProof.P3Eq
import PyProof.P3In
import KE.KSortTup
import HandS.TupSets
import PyProof.ListRange
import PyProof.Rows.SortStr
import HandS.TupMul
import HandS.Zip
import KE.GoesZip
import PyProof.DictTable
import HandS.Style
import HandS.DictComp
import PySem.Challenge.RW_kindcounts_k06_whole_ranks_and_censuses
set_option Elab.async false
set_option linter.all false
set_option maxRecDepth 100000
/-! IpA: plain data D, how a heap bears it (Rep), the frame's invariant (FI), how a heap goes on (Mv). -/
namespace Ip
open PySem L2

/-- plain data: what the interpreted programs reckon with -/
inductive D where
  | non | bl (b : Bool) | int (i : Int) | str (s : Str)
  | tup (xs : List D) | lst (xs : List D)
  | dic (ks : List Key) (ds : List D)
  | ins (c : Str) (ns : List Str) (fs : List D)
  | rng (lo hi : Int)
  | ty (n : String)
  | pool

/-- objects that are written -/
def MutO : HO → Prop
  | .lst _ => True
  | .dK _ => True
  | .dT _ => True
  | .set _ _ => True
  | .ins _ _ _ => True
  | _ => False

/-- a tuple that is told to the object: its dict is none -/
def SqN (K : PySem.W.Frag) (H : Hp) (a : Addr) (xs : List V) : Prop := (∃ o : Obj, o.dict = none ∧ H a = some (.frz o (.tup xs))) ∨
  ∃ (o : Obj) (its : Array Value) (n : Nat), K.lookup a = some o ∧ o.cls = .type "tuple" ∧ o.dict = none ∧ o.data = .seq its n ∧ its.size ≤ sizeLine ∧ Vals xs its.toList
theorem SqN.t {K : PySem.W.Frag} {H : Hp} {a : Addr} {xs : List V} (h : SqN K H a xs) : SqT K H a xs := by
  rcases h with ⟨o, _, h⟩ | ⟨o, its, n, h1, h2, _, h4⟩
  · exact .inl (.inr ⟨o, h⟩)
  · exact .inr ⟨o, its, n, h1, h2, h4⟩

section
variable (K : PySem.W.Frag) (p : Addr)
mutual
/-- v stands for d in the heap; no list or dict of it lies at B -/
inductive Rep (B : Addr → Prop) (H : Hp) : V → D → Prop
  | non : Rep B H .non .non
  | bl (b : Bool) : Rep B H (.bl b) (.bl b)
  | int (i : Int) : Rep B H (.int i) (.int i)
  | str (x : Str) : Rep B H (.str x) (.str x)
  | ty (n : String) : Rep B H (.ty n) (.ty n)
  | tup {a : Addr} {vs : List V} {ds : List D} : SqN K H a vs → Reps B H vs ds → Rep B H (.ref a) (.tup ds)
  | lst {a : Addr} {vs : List V} {ds : List D} : H a = some (.lst vs) → ¬ B a → Reps B H vs ds → Rep B H (.ref a) (.lst ds)
  | dic {a : Addr} {kvs : List (Key × V)} {ds : List D} : H a = some (.dK kvs) → ¬ B a → (kvs.map (·.1)).Nodup → Reps B H (kvs.map (·.2)) ds → Rep B H (.ref a) (.dic (kvs.map (·.1)) ds)
  | rng {a : Addr} {lo hi : Int} : H a = some (.rng lo hi) → ¬ B a → Rep B H (.ref a) (.rng lo hi)
  | pool : Rep B H (.ref p) .pool
  | ins {a C dx : Addr} {c : Str} {ns : List Str} {vs : List V} {ds : List D} : PySem.W.nsIn K mainGlobals c = some (some (.ref C)) → H a = some (.ins C dx (ns.zip vs)) → ns.length = vs.length → ¬ B a → Reps B H vs ds → Rep B H (.ref a) (.ins c ns ds)
inductive Reps (B : Addr → Prop) (H : Hp) : List V → List D → Prop
  | nil : Reps B H [] []
  | cons {v : V} {vs : List V} {d : D} {ds : List D} : Rep B H v d → Reps B H vs ds → Reps B H (v :: vs) (d :: ds)
end
end

section
variable {K : PySem.W.Frag} {p : Addr} {B B' : Addr → Prop} {H H' : Hp}
theorem Reps.length : ∀ {vs : List V} {ds : List D}, Reps K p B H vs ds → vs.length = ds.length
  | _, _, .nil => rfl
  | _, _, .cons _ t => congrArg (· + 1) (Reps.length t)
theorem Reps.get : ∀ {vs : List V} {ds : List D}, Reps K p B H vs ds → ∀ {i : Nat} {d : D}, ds[i]? = some d → ∃ v, vs[i]? = some v ∧ Rep K p B H v d
  | _, _, .nil, i, d, h => by simp at h
  | _, _, .cons r t, 0, d, h => by
    simp only [List.getElem?_cons_zero, Option.some.injEq] at h
    subst h
    exact ⟨_, by simp, r⟩
  | _, _, .cons r t, i + 1, d, h => by
    simp only [List.getElem?_cons_succ] at h
    obtain ⟨v, e, q⟩ := Reps.get t h
    exact ⟨v, by simpa using e, q⟩
theorem Reps.getV : ∀ {vs : List V} {ds : List D}, Reps K p B H vs ds → ∀ {i : Nat} {v : V}, vs[i]? = some v → ∃ d, ds[i]? = some d ∧ Rep K p B H v d
  | _, _, .nil, i, d, h => by simp at h
  | _, _, .cons r t, 0, d, h => by
    simp only [List.getElem?_cons_zero, Option.some.injEq] at h
    subst h
    exact ⟨_, by simp, r⟩
  | _, _, .cons r t, i + 1, d, h => by
    simp only [List.getElem?_cons_succ] at h
    obtain ⟨v, e, q⟩ := Reps.getV t h
    exact ⟨v, by simpa using e, q⟩
theorem Reps.append : ∀ {vs ws : List V} {ds es : List D}, Reps K p B H vs ds → Reps K p B H ws es → Reps K p B H (vs ++ ws) (ds ++ es)
  | _, _, _, _, .nil, s => s
  | _, _, _, _, .cons r t, s => .cons r (Reps.append t s)
theorem Reps.take : ∀ {vs : List V} {ds : List D} (n : Nat), Reps K p B H vs ds → Reps K p B H (vs.take n) (ds.take n)
  | _, _, 0, _ => .nil
  | _, _, _ + 1, .nil => .nil
  | _, _, n + 1, .cons r t => .cons r (Reps.take n t)
theorem Reps.drop : ∀ {vs : List V} {ds : List D} (n : Nat), Reps K p B H vs ds → Reps K p B H (vs.drop n) (ds.drop n)
  | _, _, 0, r => r
  | _, _, _ + 1, .nil => .nil
  | _, _, n + 1, .cons _ t => Reps.drop n t
theorem Reps.set {v : V} {d : D} (r : Rep K p B H v d) : ∀ {vs : List V} {ds : List D} (i : Nat), Reps K p B H vs ds → Reps K p B H (vs.set i v) (ds.set i d)
  | _, _, _, .nil => .nil
  | _, _, 0, .cons _ t => .cons r t
  | _, _, i + 1, .cons q t => .cons q (Reps.set r i t)
theorem Reps.one {v : V} {d : D} (r : Rep K p B H v d) : Reps K p B H [v] [d] := .cons r .nil
theorem Reps.of_get : ∀ {vs : List V} {ds : List D}, vs.length = ds.length → (∀ (i : Nat) v d, vs[i]? = some v → ds[i]? = some d → Rep K p B H v d) → Reps K p B H vs ds
  | [], [], _, _ => .nil
  | [], _ :: _, h, _ => by simp at h
  | _ :: _, [], h, _ => by simp at h
  | v :: vs, d :: ds, h, f => .cons (f 0 v d (by simp) (by simp)) (Reps.of_get (by simpa using h) fun i w e h1 h2 => f (i + 1) w e (by simpa using h1) (by simpa using h2))
theorem Reps.mono_of {vs : List V} {ds : List D} (f : ∀ v d, Rep K p B H v d → Rep K p B' H' v d) : Reps K p B H vs ds → Reps K p B' H' vs ds := fun r =>
  Reps.of_get r.length fun i v d h1 h2 => by
    obtain ⟨w, e, q⟩ := r.get h2
    rw [h1] at e
    cases e
    exact f v d q

theorem rd_move {a : Addr} {u : HO} (k : ∀ b o, ¬ B b → H b = some o → H' b = some o) (nb : ¬ B a) (r : Rd H a u) : Rd H' a u := by
  rcases r with r | ⟨o, r⟩
  · exact .inl (k _ _ nb r)
  · exact .inr ⟨o, k _ _ nb r⟩
theorem rd_some {a : Addr} {u : HO} (r : Rd H a u) : H a ≠ none := by
  rcases r with r | ⟨o, r⟩ <;> rw [r] <;> simp
/-- data go on: what lies elsewhere than at B is kept, B grows by new places alone, at B lie things that are written -/
theorem Rep.move (k : ∀ b o, ¬ B b → H b = some o → H' b = some o) (hb : ∀ b, B' b → B b ∨ H b = none) (hm : ∀ b, B b → ∃ o, H b = some o ∧ MutO o) : ∀ {v : V} {d : D}, Rep K p B H v d → Rep K p B' H' v d := by
  have nB : ∀ {a : Addr} {u : HO}, Rd H a u → ¬ B a → ¬ B' a := fun {a u} r nb h => by
    rcases hb a h with q | q
    · exact nb q
    · exact rd_some r q
  have nT : ∀ {a : Addr} {vs : List V}, H a = some (.tup vs) → ¬ B a := fun {a vs} e h => by
    obtain ⟨o, e2, m⟩ := hm a h
    rw [e] at e2
    cases e2
    exact m
  have nF : ∀ {a : Addr} {o : Obj} {u : HO}, H a = some (.frz o u) → ¬ B a := fun {a o u} e h => by
    obtain ⟨o, e2, m⟩ := hm a h
    rw [e] at e2
    cases e2
    exact m
  intro v d r
  refine Rep.rec (motive_1 := fun v d _ => Rep K p B' H' v d) (motive_2 := fun vs ds _ => Reps K p B' H' vs ds) ?_ ?_ ?_ ?_ ?_ ?_ ?_ ?_ ?_ ?_ ?_ ?_ ?_ r
  · exact .non
  · exact fun b => .bl b
  · exact fun i => .int i
  · exact fun x => .str x
  · exact fun n => .ty n
  · intro a vs ds h _ ih
    refine .tup ?_ ih
    rcases h with ⟨o, hd, h⟩ | h
    · exact .inl ⟨o, hd, k _ _ (nF h) h⟩
    · exact .inr h
  · intro a vs ds h nb _ ih
    exact .lst (k _ _ nb h) (nB (.inl h) nb) ih
  · intro a kvs ds h nb nd _ ih
    exact .dic (k _ _ nb h) (nB (.inl h) nb) nd ih
  · intro a lo hi h nb
    exact .rng (k _ _ nb h) (nB (.inl h) nb)
  · exact .pool
  · intro a C dx c ns vs ds hn h hl nb _ ih
    exact .ins hn (k _ _ nb h) hl (nB (.inl h) nb) ih
  · exact .nil
  · intro v vs d ds _ _ h1 h2
    exact .cons h1 h2
theorem Reps.move (k : ∀ b o, ¬ B b → H b = some o → H' b = some o) (hb : ∀ b, B' b → B b ∨ H b = none) (hm : ∀ b, B b → ∃ o, H b = some o ∧ MutO o) {vs : List V} {ds : List D} (r : Reps K p B H vs ds) : Reps K p B' H' vs ds :=
  r.mono_of fun _ _ q => q.move k hb hm
/-- all that is tracked is kept -/
theorem Rep.same (e : Same H H') {v : V} {d : D} (r : Rep K p B H v d) : Rep K p B H' v d := by
  refine Rep.rec (motive_1 := fun v d _ => Rep K p B H' v d) (motive_2 := fun vs ds _ => Reps K p B H' vs ds) ?_ ?_ ?_ ?_ ?_ ?_ ?_ ?_ ?_ ?_ ?_ ?_ ?_ r
  · exact .non
  · exact fun b => .bl b
  · exact fun i => .int i
  · exact fun x => .str x
  · exact fun n => .ty n
  · intro a vs ds h _ ih
    refine .tup ?_ ih
    rcases h with ⟨o, hd, h⟩ | h
    · exact .inl ⟨o, hd, e _ _ h⟩
    · exact .inr h
  · intro a vs ds h nb _ ih
    exact .lst (e _ _ h) nb ih
  · intro a kvs ds h nb nd _ ih
    exact .dic (e _ _ h) nb nd ih
  · intro a lo hi h nb
    exact .rng (e _ _ h) nb
  · exact .pool
  · intro a C dx c ns vs ds hn h hl nb _ ih
    exact .ins hn (e _ _ h) hl nb ih
  · exact .nil
  · intro v vs d ds _ _ h1 h2
    exact .cons h1 h2
theorem Reps.same (e : Same H H') {vs : List V} {ds : List D} (r : Reps K p B H vs ds) : Reps K p B H' vs ds := r.mono_of fun _ _ q => q.same e
/-- fewer places are shunned -/
theorem Rep.less (hb : ∀ b, B' b → B b) {v : V} {d : D} (r : Rep K p B H v d) : Rep K p B' H v d := by
  refine Rep.rec (motive_1 := fun v d _ => Rep K p B' H v d) (motive_2 := fun vs ds _ => Reps K p B' H vs ds) ?_ ?_ ?_ ?_ ?_ ?_ ?_ ?_ ?_ ?_ ?_ ?_ ?_ r
  · exact .non
  · exact fun b => .bl b
  · exact fun i => .int i
  · exact fun x => .str x
  · exact fun n => .ty n
  · intro a vs ds h _ ih
    exact .tup h ih
  · intro a vs ds h nb _ ih
    exact .lst h (fun q => nb (hb _ q)) ih
  · intro a kvs ds h nb nd _ ih
    exact .dic h (fun q => nb (hb _ q)) nd ih
  · intro a lo hi h nb
    exact .rng h (fun q => nb (hb _ q))
  · exact .pool
  · intro a C dx c ns vs ds hn h hl nb _ ih
    exact .ins hn h hl (fun q => nb (hb _ q)) ih
  · exact .nil
  · intro v vs d ds _ _ h1 h2
    exact .cons h1 h2
theorem Reps.less (hb : ∀ b, B' b → B b) {vs : List V} {ds : List D} (r : Reps K p B H vs ds) : Reps K p B' H vs ds := r.mono_of fun _ _ q => q.less hb
end

/-- a slot's value: data, or a list or dict of the frame's own that is still written -/
inductive SV where
  | sh (d : D) | own (xs : List D) | ownD (ks : List Key) (ds : List D)
abbrev En := List (Option SV)
abbrev Oa := Nat → Option Addr
def Own (oa : Oa) (b : Addr) : Prop := ∃ i, oa i = some b
def Bf (B0 : Addr → Prop) (p : Addr) (oa : Oa) (b : Addr) : Prop := B0 b ∨ b = p ∨ Own oa b
def oa0 : Oa := fun _ => none
theorem own0 {b : Addr} : ¬ Own oa0 b := fun ⟨_, h⟩ => nomatch h

/-- what an own slot holds -/
inductive OwnAt (K : PySem.W.Frag) (p : Addr) (B : Addr → Prop) (H : Hp) (a : Addr) : SV → Prop
  | own {xs : List D} {vs : List V} : H a = some (.lst vs) → Reps K p B H vs xs → OwnAt K p B H a (.own xs)
  | ownD {kvs : List (Key × V)} {ds : List D} : H a = some (.dK kvs) → (kvs.map (·.1)).Nodup → Reps K p B H (kvs.map (·.2)) ds → OwnAt K p B H a (.ownD (kvs.map (·.1)) ds)

/-- the pool -/
def PoolOk (K : PySem.W.Frag) (p : Addr) (B : Addr → Prop) (H : Hp) (S : List D) : Prop := ∃ vs, H p = some (.lst vs) ∧ Reps K p B H vs S

structure FI (K : PySem.W.Frag) (p : Addr) (B0 : Addr → Prop) (oa : Oa) (env : En) (σ : L2.St) (H : Hp) (S : List D) : Prop where
  len : env.length = σ.length
  sh : ∀ (i : Nat) d, env[i]? = some (some (.sh d)) → ∃ v, σ[i]? = some (some v) ∧ Rep K p (Bf B0 p oa) H v d
  ow : ∀ (i : Nat) a, oa i = some a → σ[i]? = some (some (.ref a)) ∧ ∃ x, env[i]? = some (some x) ∧ OwnAt K p (Bf B0 p oa) H a x
  has : ∀ (i : Nat) x, env[i]? = some (some x) → (∃ d, x = .sh d) ∨ ∃ a, oa i = some a
  inj : ∀ (i j : Nat) a, oa i = some a → oa j = some a → i = j
  dis : ∀ (i : Nat) a, oa i = some a → ¬ B0 a ∧ a ≠ p
  b0 : ∀ b, B0 b → ∃ o, H b = some o ∧ MutO o
  pool : PoolOk K p (Bf B0 p oa) H S

structure Mv (p : Addr) (oa oa' : Oa) (H H' : Hp) : Prop where
  kp : ∀ b o, b ≠ p → ¬ Own oa b → H b = some o → H' b = some o
  pk : H' p = none → H p = none
  nw : ∀ b, Own oa' b → Own oa b ∨ H b = none

/-- an expression's way: all but the pool is kept -/
def Keep (p : Addr) (H H' : Hp) : Prop := ∀ b o, b ≠ p → H b = some o → H' b = some o
theorem Keep.refl (p : Addr) (H : Hp) : Keep p H H := fun _ _ _ h => h
theorem Keep.trans {p : Addr} {H H1 H2 : Hp} (a : Keep p H H1) (b : Keep p H1 H2) : Keep p H H2 := fun c o n h => b c o n (a c o n h)
theorem Keep.of {p : Addr} {H H' : Hp} (e : Same H H') : Keep p H H' := fun b o _ h => e b o h

section
variable {K : PySem.W.Frag} {p : Addr} {B0 : Addr → Prop} {oa oa' oa2 : Oa} {env : En} {σ : L2.St} {H H' H2 : Hp} {S S' : List D}
theorem Mv.refl : Mv p oa oa H H := ⟨fun _ _ _ _ h => h, fun h => h, fun _ h => .inl h⟩
theorem Mv.trans (a : Mv p oa oa' H H') (b : Mv p oa' oa2 H' H2) : Mv p oa oa2 H H2 where
  kp := fun c o n no h => b.kp c o n (fun q => (a.nw c q).elim no fun z => by rw [z] at h; cases h) (a.kp c o n no h)
  pk := fun h => a.pk (b.pk h)
  nw := fun c q => by
    rcases b.nw c q with z | z
    · exact a.nw c z
    · by_cases ho : Own oa c
      · exact .inl ho
      · by_cases hp : c = p
        · subst hp
          exact .inr (a.pk z)
        · cases e : H c with
          | none => exact .inr rfl
          | some o =>
            rw [a.kp c o hp ho e] at z
            cases z
/-- the pool is there -/
theorem PoolOk.some {B : Addr → Prop} (h : PoolOk K p B H S) : H p ≠ none := by
  obtain ⟨vs, e, _⟩ := h
  rw [e]
  simp
theorem Keep.mv (k : Keep p H H') (h : H' p ≠ none) : Mv p oa oa H H' := ⟨fun b o n _ q => k b o n q, fun z => absurd z h, fun _ q => .inl q⟩
theorem OwnAt.mut {B : Addr → Prop} {a : Addr} {x : SV} (h : OwnAt K p B H a x) : ∃ o, H a = some o ∧ MutO o := by
  cases h with
  | own e _ => exact ⟨_, e, trivial⟩
  | ownD e _ _ => exact ⟨_, e, trivial⟩
theorem FI.mut (f : FI K p B0 oa env σ H S) : ∀ b, Bf B0 p oa b → ∃ o, H b = some o ∧ MutO o := fun b h => by
  rcases h with h | h | ⟨i, h⟩
  · exact f.b0 b h
  · obtain ⟨vs, e, _⟩ := f.pool
    exact ⟨.lst vs, by rw [h]; exact e, trivial⟩
  · obtain ⟨_, x, _, q⟩ := f.ow i b h
    exact q.mut
theorem FI.new (f : FI K p B0 oa env σ H S) {b : Addr} (h : H b = none) : ¬ Bf B0 p oa b := fun q => by
  obtain ⟨o, e, _⟩ := f.mut b q
  rw [h] at e
  cases e
theorem OwnAt.move {B : Addr → Prop} {a : Addr} {x : SV} (h : OwnAt K p B H a x) (k : ∀ b o, ¬ B b → H b = some o → H' b = some o) (ka : ∀ o, H a = some o → H' a = some o) (hm : ∀ b, B b → ∃ o, H b = some o ∧ MutO o) : OwnAt K p B H' a x := by
  cases h with
  | own e r => exact .own (ka _ e) (r.move k (fun _ q => .inl q) hm)
  | ownD e n r => exact .ownD (ka _ e) n (r.move k (fun _ q => .inl q) hm)
theorem OwnAt.less {B B' : Addr → Prop} {a : Addr} {x : SV} (h : OwnAt K p B H a x) (k : ∀ b, B' b → B b) : OwnAt K p B' H a x := by
  cases h with
  | own e r => exact .own e (r.less k)
  | ownD e n r => exact .ownD e n (r.less k)
theorem OwnAt.more {B B' : Addr → Prop} {a : Addr} {x : SV} (h : OwnAt K p B H a x) (hb : ∀ b, B' b → B b ∨ H b = none) (hm : ∀ b, B b → ∃ o, H b = some o ∧ MutO o) : OwnAt K p B' H a x := by
  cases h with
  | own e r => exact .own e (r.move (fun _ _ _ q => q) hb hm)
  | ownD e n r => exact .ownD e n (r.move (fun _ _ _ q => q) hb hm)
/-- all but the pool is kept; the pool holds S' -/
theorem FI.keep (f : FI K p B0 oa env σ H S) (k : Keep p H H') (hp : PoolOk K p (Bf B0 p oa) H' S') : FI K p B0 oa env σ H' S' where
  len := f.len
  sh := fun i d e => by
    obtain ⟨v, e1, r⟩ := f.sh i d e
    exact ⟨v, e1, r.move (fun b o nb q => k b o (fun z => nb (.inr (.inl z))) q) (fun _ q => .inl q) f.mut⟩
  ow := fun i a e => by
    obtain ⟨e1, x, e2, q⟩ := f.ow i a e
    exact ⟨e1, x, e2, q.move (fun b o nb q => k b o (fun z => nb (.inr (.inl z))) q) (fun o q => k a o (f.dis i a e).2 q) f.mut⟩
  has := f.has
  inj := f.inj
  dis := f.dis
  b0 := fun b h => by
    obtain ⟨o, e, m⟩ := f.b0 b h
    by_cases hb : b = p
    · subst hb
      obtain ⟨vs, e2, _⟩ := hp
      exact ⟨_, e2, trivial⟩
    · exact ⟨o, k b o hb e, m⟩
  pool := hp
theorem FI.same (f : FI K p B0 oa env σ H S) (e : Same H H') : FI K p B0 oa env σ H' S := f.keep (Keep.of e) (by
  obtain ⟨vs, e1, r⟩ := f.pool
  exact ⟨vs, e _ _ e1, r.same e⟩)
/-- data of an expression go on -/
theorem Rep.keep {v : V} {d : D} (r : Rep K p (Bf B0 p oa) H v d) (f : FI K p B0 oa env σ H S) (k : Keep p H H') : Rep K p (Bf B0 p oa) H' v d :=
  r.move (fun b o nb q => k b o (fun z => nb (.inr (.inl z))) q) (fun _ q => .inl q) f.mut
theorem Reps.keep {vs : List V} {ds : List D} (r : Reps K p (Bf B0 p oa) H vs ds) (f : FI K p B0 oa env σ H S) (k : Keep p H H') : Reps K p (Bf B0 p oa) H' vs ds :=
  r.mono_of fun _ _ q => q.keep f k
/-- one more place to shun: a new one, written -/
theorem FI.shun (f : FI K p B0 oa env σ H S) {a : Addr} (hn : H a = none) {o : HO} (hm : MutO o) : FI K p (fun b => B0 b ∨ b = a) oa env σ (upd H a o) S := by
  have hs : Same H (upd H a o) := fun b u q => by
    rw [upd_ne (ne_of_none q hn)]
    exact q
  have f1 := f.same hs
  have hb : ∀ b, Bf (fun b => B0 b ∨ b = a) p oa b → Bf B0 p oa b ∨ H b = none := fun b h => by
    rcases h with (h | h) | h | h
    · exact .inl (.inl h)
    · exact .inr (h ▸ hn)
    · exact .inl (.inr (.inl h))
    · exact .inl (.inr (.inr h))
  have mv : ∀ {v : V} {d : D}, Rep K p (Bf B0 p oa) H v d → Rep K p (Bf (fun b => B0 b ∨ b = a) p oa) (upd H a o) v d := fun r => r.move (fun b o _ q => hs b o q) hb f.mut
  have mvs : ∀ {vs : List V} {ds : List D}, Reps K p (Bf B0 p oa) H vs ds → Reps K p (Bf (fun b => B0 b ∨ b = a) p oa) (upd H a o) vs ds := fun r => r.mono_of fun _ _ q => mv q
  refine ⟨f.len, fun i d e => ?_, fun i b e => ?_, f.has, f.inj, fun i b e => ?_, fun b h => ?_, ?_⟩
  · obtain ⟨v, e1, r⟩ := f.sh i d e
    exact ⟨v, e1, mv r⟩
  · obtain ⟨e1, x, e2, q⟩ := f.ow i b e
    refine ⟨e1, x, e2, ?_⟩
    cases q with
    | own e3 r => exact .own (hs _ _ e3) (mvs r)
    | ownD e3 n r => exact .ownD (hs _ _ e3) n (mvs r)
  · refine ⟨fun h => ?_, (f.dis i b e).2⟩
    rcases h with h | h
    · exact (f.dis i b e).1 h
    · obtain ⟨_, x, _, q⟩ := f.ow i b e
      obtain ⟨u, e3, _⟩ := q.mut
      rw [h, hn] at e3
      cases e3
  · rcases h with h | h
    · obtain ⟨u, e, m⟩ := f.b0 b h
      exact ⟨u, hs _ _ e, m⟩
    · exact ⟨o, h ▸ upd_same, hm⟩
  · obtain ⟨vs, e1, r⟩ := f.pool
    exact ⟨vs, hs _ _ e1, mvs r⟩
/-- the written place that is shunned is written anew -/
theorem FI.wrote {a : Addr} {o : HO} (f : FI K p (fun b => B0 b ∨ b = a) oa env σ H S) (hp : a ≠ p) (hm : MutO o) (ho : ∀ i, oa i ≠ some a) : FI K p (fun b => B0 b ∨ b = a) oa env σ (upd H a o) S := by
  have ks : ∀ b u, ¬ Bf (fun b => B0 b ∨ b = a) p oa b → H b = some u → upd H a o b = some u := fun b u nb q => by
    rw [upd_ne fun z => nb (.inl (.inr z))]
    exact q
  have mv : ∀ {v : V} {d : D}, Rep K p (Bf (fun b => B0 b ∨ b = a) p oa) H v d → Rep K p (Bf (fun b => B0 b ∨ b = a) p oa) (upd H a o) v d := fun r => r.move ks (fun _ q => .inl q) f.mut
  have mvs : ∀ {vs : List V} {ds : List D}, Reps K p (Bf (fun b => B0 b ∨ b = a) p oa) H vs ds → Reps K p (Bf (fun b => B0 b ∨ b = a) p oa) (upd H a o) vs ds := fun r => r.mono_of fun _ _ q => mv q
  refine ⟨f.len, fun i d e => ?_, fun i b e => ?_, f.has, f.inj, f.dis, fun b h => ?_, ?_⟩
  · obtain ⟨v, e1, r⟩ := f.sh i d e
    exact ⟨v, e1, mv r⟩
  · obtain ⟨e1, x, e2, q⟩ := f.ow i b e
    have nb : b ≠ a := fun z => ho i (z ▸ e)
    refine ⟨e1, x, e2, ?_⟩
    cases q with
    | own e3 r => exact .own (by rw [upd_ne nb]; exact e3) (mvs r)
    | ownD e3 n r => exact .ownD (by rw [upd_ne nb]; exact e3) n (mvs r)
  · by_cases hb : b = a
    · exact ⟨o, hb ▸ upd_same, hm⟩
    · obtain ⟨u, e, m⟩ := f.b0 b h
      exact ⟨u, by rw [upd_ne hb]; exact e, m⟩
  · obtain ⟨vs, e1, r⟩ := f.pool
    exact ⟨vs, by rw [upd_ne (Ne.symm hp)]; exact e1, mvs r⟩
/-- the shunned place is let go -/
theorem FI.unshun {a : Addr} (f : FI K p (fun b => B0 b ∨ b = a) oa env σ H S) : FI K p B0 oa env σ H S := by
  have hb : ∀ b, Bf B0 p oa b → Bf (fun b => B0 b ∨ b = a) p oa b := fun b h => by
    rcases h with h | h
    · exact .inl (.inl h)
    · exact .inr h
  refine ⟨f.len, fun i d e => ?_, fun i b e => ?_, f.has, f.inj, fun i b e => ⟨fun q => (f.dis i b e).1 (.inl q), (f.dis i b e).2⟩, fun b h => f.b0 b (.inl h), ?_⟩
  · obtain ⟨v, e1, r⟩ := f.sh i d e
    exact ⟨v, e1, r.less hb⟩
  · obtain ⟨e1, x, e2, q⟩ := f.ow i b e
    exact ⟨e1, x, e2, q.less hb⟩
  · obtain ⟨vs, e1, r⟩ := f.pool
    exact ⟨vs, e1, r.less hb⟩

def oaDrop (oa : Oa) (i : Nat) : Oa := fun j => if j = i then none else oa j
def oaPut (oa : Oa) (i : Nat) (a : Addr) : Oa := fun j => if j = i then some a else oa j
theorem own_drop {i : Nat} {b : Addr} (h : Own (oaDrop oa i) b) : Own oa b := by
  obtain ⟨j, e⟩ := h
  unfold oaDrop at e
  by_cases hj : j = i
  · rw [if_pos hj] at e
    cases e
  · rw [if_neg hj] at e
    exact ⟨j, e⟩
theorem own_put {i : Nat} {a b : Addr} (h : Own (oaPut oa i a) b) : Own oa b ∨ b = a := by
  obtain ⟨j, e⟩ := h
  unfold oaPut at e
  by_cases hj : j = i
  · rw [if_pos hj] at e
    cases e
    exact .inr rfl
  · rw [if_neg hj] at e
    exact .inl ⟨j, e⟩
theorem bf_drop {i : Nat} {b : Addr} (h : Bf B0 p (oaDrop oa i) b) : Bf B0 p oa b := by
  rcases h with h | h | h
  · exact .inl h
  · exact .inr (.inl h)
  · exact .inr (.inr (own_drop h))
theorem get_set_ne {α : Type} {l : List α} {i j : Nat} {x : α} (h : j ≠ i) : (l.set i x)[j]? = l[j]? := List.getElem?_set_ne (Ne.symm h)
theorem get_set_eq {α : Type} {l : List α} {i : Nat} {x y : α} (h : (l.set i x)[i]? = some y) : y = x ∧ i < l.length := by
  by_cases hi : i < l.length
  · rw [List.getElem?_set_self hi] at h
    exact ⟨(Option.some.inj h).symm, hi⟩
  · rw [List.getElem?_eq_none (by simpa using hi)] at h
    cases h
/-- a slot takes data -/
theorem FI.set (f : FI K p B0 oa env σ H S) {v : V} {d : D} (i : Nat) (r : Rep K p (Bf B0 p oa) H v d) : FI K p B0 (oaDrop oa i) (env.set i (some (.sh d))) (σ.set i (some v)) H S := by
  refine ⟨by rw [List.length_set, List.length_set, f.len], fun j e h => ?_, fun j b h => ?_, fun j x h => ?_, fun j k b h1 h2 => ?_, fun j b h => ?_, f.b0, ?_⟩
  · by_cases hj : j = i
    · subst hj
      obtain ⟨e1, hl⟩ := get_set_eq h
      cases e1
      exact ⟨v, by rw [List.getElem?_set_self (by rw [← f.len]; exact hl)], r.less fun b => bf_drop⟩
    · rw [get_set_ne hj] at h
      obtain ⟨w, e1, q⟩ := f.sh j e h
      exact ⟨w, by rw [get_set_ne hj]; exact e1, q.less fun b => bf_drop⟩
  · unfold oaDrop at h
    by_cases hj : j = i
    · rw [if_pos hj] at h
      cases h
    · rw [if_neg hj] at h
      obtain ⟨e1, x, e2, q⟩ := f.ow j b h
      exact ⟨by rw [get_set_ne hj]; exact e1, x, by rw [get_set_ne hj]; exact e2, q.less fun b => bf_drop⟩
  · by_cases hj : j = i
    · subst hj
      obtain ⟨e1, _⟩ := get_set_eq h
      cases e1
      exact .inl ⟨_, rfl⟩
    · rw [get_set_ne hj] at h
      rcases f.has j x h with q | ⟨a, q⟩
      · exact .inl q
      · exact .inr ⟨a, by unfold oaDrop; rw [if_neg hj]; exact q⟩
  · unfold oaDrop at h1 h2
    split at h1
    · cases h1
    · split at h2
      · cases h2
      · exact f.inj j k b h1 h2
  · unfold oaDrop at h
    split at h
    · cases h
    · exact f.dis j b h
  · obtain ⟨vs, e1, q⟩ := f.pool
    exact ⟨vs, e1, q.less fun b => bf_drop⟩
theorem Mv.drop (i : Nat) : Mv p oa (oaDrop oa i) H H := ⟨fun _ _ _ _ h => h, fun h => h, fun _ h => .inl (own_drop h)⟩
/-- a slot takes a new list or dict of its own (at a, that was shunned) -/
theorem FI.setOwn {a : Addr} {x : SV} (f : FI K p (fun b => B0 b ∨ b = a) oa env σ H S) (i : Nat) (hi : i < env.length) (hp : a ≠ p) (h0 : ¬ B0 a) (ho : ∀ j, oa j ≠ some a) (hx : ∀ d, x ≠ .sh d) (q : OwnAt K p (Bf (fun b => B0 b ∨ b = a) p oa) H a x) :
    FI K p B0 (oaPut oa i a) (env.set i (some x)) (σ.set i (some (.ref a))) H S := by
  have hb : ∀ b, Bf B0 p (oaPut oa i a) b → Bf (fun b => B0 b ∨ b = a) p oa b := fun b h => by
    rcases h with h | h | h
    · exact .inl (.inl h)
    · exact .inr (.inl h)
    · rcases own_put h with h | h
      · exact .inr (.inr h)
      · exact .inl (.inr h)
  refine ⟨by rw [List.length_set, List.length_set, f.len], fun j e h => ?_, fun j b h => ?_, fun j y h => ?_, fun j k b h1 h2 => ?_, fun j b h => ?_, fun b h => f.b0 b (.inl h), ?_⟩
  · by_cases hj : j = i
    · subst hj
      obtain ⟨e1, _⟩ := get_set_eq h
      exact absurd (Option.some.inj e1).symm (hx e)
    · rw [get_set_ne hj] at h
      obtain ⟨w, e1, r⟩ := f.sh j e h
      exact ⟨w, by rw [get_set_ne hj]; exact e1, r.less hb⟩
  · unfold oaPut at h
    by_cases hj : j = i
    · rw [if_pos hj] at h
      cases h
      subst hj
      exact ⟨by rw [List.getElem?_set_self (by rw [← f.len]; exact hi)], x, by rw [List.getElem?_set_self hi], q.less hb⟩
    · rw [if_neg hj] at h
      obtain ⟨e1, y, e2, r⟩ := f.ow j b h
      exact ⟨by rw [get_set_ne hj]; exact e1, y, by rw [get_set_ne hj]; exact e2, r.less hb⟩
  · by_cases hj : j = i
    · exact .inr ⟨a, by unfold oaPut; rw [if_pos hj]⟩
    · rw [get_set_ne hj] at h
      rcases f.has j y h with z | ⟨b, z⟩
      · exact .inl z
      · exact .inr ⟨b, by unfold oaPut; rw [if_neg hj]; exact z⟩
  · unfold oaPut at h1 h2
    split at h1
    · split at h2
      · rename_i z1 z2
        rw [z1, z2]
      · cases h1
        exact absurd h2 (ho k)
    · split at h2
      · cases h2
        exact absurd h1 (ho j)
      · exact f.inj j k b h1 h2
  · unfold oaPut at h
    split at h
    · cases h
      exact ⟨h0, hp⟩
    · exact ⟨fun z => (f.dis j b h).1 (.inl z), (f.dis j b h).2⟩
  · obtain ⟨vs, e1, r⟩ := f.pool
    exact ⟨vs, e1, r.less hb⟩
/-- an own slot is written (its object at a becomes o') -/
theorem FI.own {a : Addr} {i : Nat} {x : SV} {o' : HO} (f : FI K p B0 oa env σ H S) (ha : oa i = some a) (hx : ∀ d, x ≠ .sh d) (q : OwnAt K p (Bf B0 p oa) (upd H a o') a x) : FI K p B0 oa (env.set i (some x)) σ (upd H a o') S := by
  have ks : ∀ b u, ¬ Bf B0 p oa b → H b = some u → upd H a o' b = some u := fun b u nb q => by
    rw [upd_ne (fun z : b = a => nb (.inr (.inr ⟨i, by rw [z]; exact ha⟩)))]
    exact q
  have mv : ∀ {v : V} {d : D}, Rep K p (Bf B0 p oa) H v d → Rep K p (Bf B0 p oa) (upd H a o') v d := fun r => r.move ks (fun _ q => .inl q) f.mut
  have mvs : ∀ {vs : List V} {ds : List D}, Reps K p (Bf B0 p oa) H vs ds → Reps K p (Bf B0 p oa) (upd H a o') vs ds := fun r => r.mono_of fun _ _ q => mv q
  refine ⟨by rw [List.length_set, f.len], fun j e h => ?_, fun j b h => ?_, fun j y h => ?_, f.inj, f.dis, fun b h => ?_, ?_⟩
  · by_cases hj : j = i
    · subst hj
      obtain ⟨e1, _⟩ := get_set_eq h
      exact absurd (Option.some.inj e1).symm (hx e)
    · rw [get_set_ne hj] at h
      obtain ⟨w, e1, r⟩ := f.sh j e h
      exact ⟨w, e1, mv r⟩
  · by_cases hj : j = i
    · subst hj
      rw [ha] at h
      cases h
      obtain ⟨e1, y, e2, _⟩ := f.ow j a ha
      have hl : j < env.length := (List.getElem?_eq_some_iff.mp e2).1
      exact ⟨e1, x, by rw [List.getElem?_set_self hl], q⟩
    · obtain ⟨e1, y, e2, r⟩ := f.ow j b h
      have nb : b ≠ a := fun z => hj (f.inj j i a (z ▸ h) ha)
      refine ⟨e1, y, by rw [get_set_ne hj]; exact e2, ?_⟩
      cases r with
      | own e3 r => exact .own (by rw [upd_ne nb]; exact e3) (mvs r)
      | ownD e3 n r => exact .ownD (by rw [upd_ne nb]; exact e3) n (mvs r)
  · by_cases hj : j = i
    · exact .inr ⟨a, hj ▸ ha⟩
    · rw [get_set_ne hj] at h
      exact f.has j y h
  · obtain ⟨u, e, m⟩ := f.b0 b h
    exact ⟨u, by rw [upd_ne (fun z : b = a => (f.dis i a ha).1 (by rw [← z]; exact h))]; exact e, m⟩
  · obtain ⟨vs, e1, r⟩ := f.pool
    exact ⟨vs, by rw [upd_ne (Ne.symm (f.dis i a ha).2)]; exact e1, mvs r⟩
theorem Mv.own {a : Addr} {i : Nat} {o' : HO} (ha : oa i = some a) (hp : a ≠ p) : Mv p oa oa H (upd H a o') :=
  ⟨fun b o _ no h => by rw [upd_ne (fun z : b = a => no ⟨i, by rw [z]; exact ha⟩)]; exact h, fun h => by rw [upd_ne (Ne.symm hp)] at h; exact h, fun _ h => .inl h⟩
/-- an own slot is read as data from now on -/
def frozen : SV → D
  | .sh d => d
  | .own xs => .lst xs
  | .ownD ks ds => .dic ks ds
def freeze (env : En) (i : Nat) : En := match env[i]? with
  | some (some x) => env.set i (some (.sh (frozen x)))
  | _ => env
theorem FI.freeze (f : FI K p B0 oa env σ H S) (i : Nat) : ∃ oa', FI K p B0 oa' (freeze env i) σ H S ∧ Mv p oa oa' H H := by
  unfold Ip.freeze
  split
  · rename_i x hx
    have hl : i < env.length := (List.getElem?_eq_some_iff.mp hx).1
    rcases f.has i x hx with ⟨d, rfl⟩ | ⟨a, ha⟩
    · obtain ⟨v, e1, r⟩ := f.sh i d hx
      have q := f.set i r
      have es : σ.set i (some v) = σ := by
        apply List.ext_getElem?
        intro j
        by_cases hj : j = i
        · subst hj
          rw [List.getElem?_set_self (by rw [← f.len]; exact hl), e1]
        · rw [get_set_ne hj]
      rw [es] at q
      exact ⟨_, q, Mv.drop i⟩
    · obtain ⟨e1, y, e2, q⟩ := f.ow i a ha
      rw [hx] at e2
      cases e2
      have nb : ¬ Bf B0 p (oaDrop oa i) a := fun h => by
        rcases h with h | h | ⟨j, h⟩
        · exact (f.dis i a ha).1 h
        · exact (f.dis i a ha).2 h
        · unfold oaDrop at h
          split at h
          · cases h
          · rename_i hj
            exact hj (f.inj j i a h ha)
      have r : Rep K p (Bf B0 p (oaDrop oa i)) H (.ref a) (frozen x) := by
        cases q with
        | own e r => exact .lst e nb (r.less fun _ => bf_drop)
        | ownD e n r => exact .dic e nb n (r.less fun _ => bf_drop)
      refine ⟨oaDrop oa i, ⟨by rw [List.length_set, f.len], fun j e h => ?_, fun j b h => ?_, fun j z h => ?_, fun j k b h1 h2 => ?_, fun j b h => ?_, f.b0, ?_⟩, Mv.drop i⟩
      · by_cases hj : j = i
        · subst hj
          obtain ⟨z, _⟩ := get_set_eq h
          cases z
          exact ⟨_, e1, r⟩
        · rw [get_set_ne hj] at h
          obtain ⟨w, e3, q3⟩ := f.sh j e h
          exact ⟨w, e3, q3.less fun b => bf_drop⟩
      · unfold oaDrop at h
        by_cases hj : j = i
        · rw [if_pos hj] at h
          cases h
        · rw [if_neg hj] at h
          obtain ⟨e3, y, e4, q4⟩ := f.ow j b h
          exact ⟨e3, y, by rw [get_set_ne hj]; exact e4, q4.less fun b => bf_drop⟩
      · by_cases hj : j = i
        · subst hj
          obtain ⟨z1, _⟩ := get_set_eq h
          cases z1
          exact .inl ⟨_, rfl⟩
        · rw [get_set_ne hj] at h
          rcases f.has j z h with q5 | ⟨b, q5⟩
          · exact .inl q5
          · exact .inr ⟨b, by unfold oaDrop; rw [if_neg hj]; exact q5⟩
      · unfold oaDrop at h1 h2
        split at h1
        · cases h1
        · split at h2
          · cases h2
          · exact f.inj j k b h1 h2
      · unfold oaDrop at h
        split at h
        · cases h
        · exact f.dis j b h
      · obtain ⟨vs, e3, q3⟩ := f.pool
        exact ⟨vs, e3, q3.less fun b => bf_drop⟩
  · exact ⟨oa, f, Mv.refl⟩
theorem FI.freezes (f : FI K p B0 oa env σ H S) : ∀ (is : List Nat), ∃ oa', FI K p B0 oa' (is.foldl Ip.freeze env) σ H S ∧ Mv p oa oa' H H := by
  intro is
  induction is generalizing env oa with
  | nil => exact ⟨oa, f, Mv.refl⟩
  | cons i is ih =>
    obtain ⟨oa1, f1, m1⟩ := f.freeze i
    obtain ⟨oa2, f2, m2⟩ := ih f1
    exact ⟨oa2, f2, m1.trans m2⟩
end
end Ip

set_option maxHeartbeats 1000000
/-! IpB: what an expression means over plain data, and that it means it: the ways of putting together. -/
namespace L2
open PySem
section
variable {X : Cx} {e : Expr}
theorem PE.imp {t t' : TE} (h : PE X e t) (f : ∀ σ H Q, t' σ H Q → t σ H Q) : PE X e t' := ⟨fun pins s σ H Q I q => h.run pins s σ H Q I (f σ H Q q)⟩
theorem PT.imp {t t' : TT} (h : PT X e t) (f : ∀ σ H Q, t' σ H Q → t σ H Q) : PT X e t' := ⟨fun pins s σ H Q I q => h.run pins s σ H Q I (f σ H Q q)⟩
theorem PW.imp {t t' : TT} (h : PW X e t) (f : ∀ σ H Q, t' σ H Q → t σ H Q) : PW X e t' := ⟨fun wh pins s σ H Q I q => h.run wh pins s σ H Q I (f σ H Q q)⟩
theorem PA.imp {es : List Expr} {t t' : TA} (h : PA X es t) (f : ∀ σ H Q, t' σ H Q → t σ H Q) : PA X es t' := ⟨fun pos pins s σ H Q I q => h.run pos pins s σ H Q I (f σ H Q q)⟩

end
end L2
namespace Ip
open PySem L2

/-- what the defs mean, by name -/
abbrev RC := Str → List D → List D → Option (D × List D)
abbrev XM := RC → En → List D → Option (D × List D)
abbrev TM := RC → En → List D → Option (Bool × List D)
abbrev AM := RC → En → List D → Option (List D × List D)

section
variable (K : PySem.W.Frag) (p : Addr)
/-- readings by a meaning -/
def tI (f : En → List D → Option (D × List D)) : TE := fun σ H Q => ∃ env S B0 oa, FI K p B0 oa env σ H S ∧ ∃ r, f env S = some r ∧
  ∀ v H', FI K p B0 oa env σ H' r.2 → Keep p H H' → Rep K p (Bf B0 p oa) H' v r.1 → Q v H'
def tTI (f : En → List D → Option (Bool × List D)) : TT := fun σ H Q => ∃ env S B0 oa, FI K p B0 oa env σ H S ∧ ∃ r, f env S = some r ∧
  ∀ H', FI K p B0 oa env σ H' r.2 → Keep p H H' → Q r.1 H'
def tAI (f : En → List D → Option (List D × List D)) : TA := fun σ H Q => ∃ env S B0 oa, FI K p B0 oa env σ H S ∧ ∃ r, f env S = some r ∧
  ∀ vs H', FI K p B0 oa env σ H' r.2 → Keep p H H' → Reps K p (Bf B0 p oa) H' vs r.1 → Q vs H'
/-- a new list: nothing else lies there, nothing else holds it -/
def tLI (f : En → List D → Option (List D × List D)) : TE := fun σ H Q => ∃ env S B0 oa, FI K p B0 oa env σ H S ∧ ∃ r, f env S = some r ∧
  ∀ a vs H', FI K p (fun b => B0 b ∨ b = a) oa env σ H' r.2 → Keep p H H' → H a = none → H' a = some (.lst vs) → Reps K p (Bf (fun b => B0 b ∨ b = a) p oa) H' vs r.1 → Q (.ref a) H'
/-- a def's promise by its meaning -/
def spI (n : Nat) (m : List D → List D → Option (D × List D)) : Sp := fun vs H Q _ => ∃ ds S B0, vs.length = n ∧ Reps K p (Bf B0 p oa0) H vs ds ∧ (∀ b, B0 b → ∃ o, H b = some o ∧ MutO o) ∧ PoolOk K p (Bf B0 p oa0) H S ∧
  ∃ r, m ds S = some r ∧ ∀ v H', Keep p H H' → PoolOk K p (Bf B0 p oa0) H' r.2 → Rep K p (Bf B0 p oa0) H' v r.1 → Q v H'
end

section
variable {X : Cx} {p : Addr} {e a b c : Expr} {pos : Pos}
/-! ### constants, names -/
def xC (d : D) : XM := fun _ _ S => some (d, S)
def xVar (i : Nat) : XM := fun _ env S => match env[i]? with
  | some (some (.sh d)) => some (d, S)
  | _ => none
theorem ie_c {R : RC} {v : V} {d : D} (h : PE X e (tC v)) (r : ∀ B H, Rep X.K p B H v d) : PE X e (tI X.K p (xC d R)) := h.imp fun σ H Q q => by
  obtain ⟨env, S, B0, oa, f, r', e1, k⟩ := q
  cases e1
  exact k v H f (Keep.refl p H) (r _ _)
theorem ie_var {R : RC} {i : Nat} (h : PE X e (tVar i)) : PE X e (tI X.K p (xVar i R)) := h.imp fun σ H Q q => by
  obtain ⟨env, S, B0, oa, f, r, e1, k⟩ := q
  unfold xVar at e1
  split at e1
  · rename_i d hd
    cases e1
    obtain ⟨v, ev, rv⟩ := f.sh i d hd
    exact ⟨v, ev, k v H f (Keep.refl p H) rv⟩
  · cases e1

/-! ### operations by values -/
abbrev HM (B : Addr → Prop) (H : Hp) : Prop := ∀ b, B b → ∃ o, H b = some o ∧ MutO o
theorem HM.new {B : Addr → Prop} {H : Hp} (h : HM B H) {b : Addr} (hn : H b = none) : ¬ B b := fun q => by
  obtain ⟨o, e, _⟩ := h b q
  rw [hn] at e
  cases e
def VR2 (K : PySem.W.Frag) (p : Addr) (r : R2) (g : D → D → Option D) : Prop := ∀ (B : Addr → Prop) (H : Hp) (x y : V) (d1 d2 d : D) (Q : VK), HM B H → Rep K p B H x d1 → Rep K p B H y d2 → g d1 d2 = some d →
  (∀ v H', Same H H' → Rep K p B H' v d → Q v H') → r x y H Q
def VR1 (K : PySem.W.Frag) (p : Addr) (r : V → Hp → VK → Prop) (g : D → Option D) : Prop := ∀ (B : Addr → Prop) (H : Hp) (x : V) (d1 d : D) (Q : VK), HM B H → Rep K p B H x d1 → g d1 = some d →
  (∀ v H', Same H H' → Rep K p B H' v d → Q v H') → r x H Q
def VRA (K : PySem.W.Frag) (p : Addr) (r : List V → Hp → VK → Prop) (g : List D → Option D) : Prop := ∀ (B : Addr → Prop) (H : Hp) (xs : List V) (ds : List D) (d : D) (Q : VK), HM B H → Reps K p B H xs ds → g ds = some d →
  (∀ v H', Same H H' → Rep K p B H' v d → Q v H') → r xs H Q
def xBin (g : D → D → Option D) (fa fb : XM) : XM := fun R env S => (fa R env S).bind fun x => (fb R env x.2).bind fun y => (g x.1 y.1).map fun d => (d, y.2)
def xUn (g : D → Option D) (fa : XM) : XM := fun R env S => (fa R env S).bind fun x => (g x.1).map fun d => (d, x.2)
def xApp (g : List D → Option D) (fa : AM) : XM := fun R env S => (fa R env S).bind fun x => (g x.1).map fun d => (d, x.2)

theorem bin_tI {r : R2} {g : D → D → Option D} {fa fb : XM} {R : RC} {K : PySem.W.Frag} (hg : VR2 K p r g) {σ : L2.St} {H : Hp} {Q : VK} (q : tI K p (xBin g fa fb R) σ H Q) :
    tI K p (fa R) σ H fun x H1 => tI K p (fb R) σ H1 fun y H2 => r x y H2 Q := by
  obtain ⟨env, S, B0, oa, f, w, e1, k⟩ := q
  unfold xBin at e1
  obtain ⟨x, ex, e1⟩ := Option.bind_eq_some_iff.mp e1
  obtain ⟨y, ey, e1⟩ := Option.bind_eq_some_iff.mp e1
  obtain ⟨d, ed, e1⟩ := Option.map_eq_some_iff.mp e1
  subst e1
  refine ⟨env, S, B0, oa, f, x, ex, fun v H1 f1 k1 r1 => ⟨env, _, B0, oa, f1, y, ey, fun u H2 f2 k2 r2 => ?_⟩⟩
  exact hg _ H2 v u _ _ d Q f2.mut (r1.keep f1 k2) r2 ed fun z H3 s3 r3 => k z H3 (f2.same s3) ((k1.trans k2).trans (Keep.of s3)) r3
theorem un_tI {r : V → Hp → VK → Prop} {g : D → Option D} {fa : XM} {R : RC} {K : PySem.W.Frag} (hg : VR1 K p r g) {σ : L2.St} {H : Hp} {Q : VK} (q : tI K p (xUn g fa R) σ H Q) :
    tI K p (fa R) σ H fun x H1 => r x H1 Q := by
  obtain ⟨env, S, B0, oa, f, w, e1, k⟩ := q
  unfold xUn at e1
  obtain ⟨x, ex, e1⟩ := Option.bind_eq_some_iff.mp e1
  obtain ⟨d, ed, e1⟩ := Option.map_eq_some_iff.mp e1
  subst e1
  refine ⟨env, S, B0, oa, f, x, ex, fun v H1 f1 k1 r1 => ?_⟩
  exact hg _ H1 v _ d Q f1.mut r1 ed fun z H3 s3 r3 => k z H3 (f1.same s3) (k1.trans (Keep.of s3)) r3
theorem app_tI {r : List V → Hp → VK → Prop} {g : List D → Option D} {fa : AM} {R : RC} {K : PySem.W.Frag} (hg : VRA K p r g) {σ : L2.St} {H : Hp} {Q : VK} (q : tI K p (xApp g fa R) σ H Q) :
    tAI K p (fa R) σ H fun xs H1 => r xs H1 Q := by
  obtain ⟨env, S, B0, oa, f, w, e1, k⟩ := q
  unfold xApp at e1
  obtain ⟨x, ex, e1⟩ := Option.bind_eq_some_iff.mp e1
  obtain ⟨d, ed, e1⟩ := Option.map_eq_some_iff.mp e1
  subst e1
  refine ⟨env, S, B0, oa, f, x, ex, fun vs H1 f1 k1 r1 => ?_⟩
  exact hg _ H1 vs _ d Q f1.mut r1 ed fun z H3 s3 r3 => k z H3 (f1.same s3) (k1.trans (Keep.of s3)) r3
theorem ie_bin {op : Operator} {r : R2} {g : D → D → Option D} {fa fb : XM} {R : RC} (ho : OpR X (binaryOp op) r) (hg : VR2 X.K p r g) (ha : PE X a (tI X.K p (fa R))) (hb : PE X b (tI X.K p (fb R))) :
    PE X (.BinOp a op b pos) (tI X.K p (xBin g fa fb R)) := (pe_op ho ha hb).imp fun σ H Q q => bin_tI hg q
theorem ie_un {op : UnaryOp} {r : V → Hp → VK → Prop} {g : D → Option D} {fa : XM} {R : RC} (ho : UnR X (unaryOp op) r) (hg : VR1 X.K p r g) (ha : PE X a (tI X.K p (fa R))) :
    PE X (.UnaryOp op a pos) (tI X.K p (xUn g fa R)) := (pe_un ho ha).imp fun σ H Q q => un_tI hg q
theorem ie_cmp {op : CmpOp} {r : R2} {g : D → D → Option D} {fa fb : XM} {R : RC} (ho : OpR X (compareOp op) r) (hg : VR2 X.K p r g) (ha : PE X a (tI X.K p (fa R))) (hb : PE X b (tI X.K p (fb R))) (hm : behindInMarks op b = false) :
    PE X (.Compare a [op] [b] pos) (tI X.K p (xBin g fa fb R)) := (pe_cmpR ho ha hb hm).imp fun σ H Q q => bin_tI hg q
theorem ie_ix {r : R2} {g : D → D → Option D} {fa fb : XM} {R : RC} (ho : IxR X r) (hg : VR2 X.K p r g) (ha : PE X a (tI X.K p (fa R))) (hb : PE X b (tI X.K p (fb R))) (hm : PlainIx b) :
    PE X (.Subscript a b pos) (tI X.K p (xBin g fa fb R)) := (pe_ix ho ha hb hm).imp fun σ H Q q => bin_tI hg q

/-! ### tests -/
/-- a value's truth -/
def truD : D → Option Bool
  | .bl b => some b
  | .non => some false
  | .int i => some (i != 0)
  | .tup xs => some (!xs.isEmpty)
  | .lst xs => some (!xs.isEmpty)
  | _ => none
def mTru (f : XM) : TM := fun R env S => (f R env S).bind fun x => (truD x.1).map fun b => (b, x.2)
/-- a test whose value is a truth value -/
def blD : D → Option Bool
  | .bl b => some b
  | _ => none
def mBl (f : XM) : TM := fun R env S => (f R env S).bind fun x => (blD x.1).map fun b => (b, x.2)
def mNot (f : TM) : TM := fun R env S => (f R env S).map fun x => (!x.1, x.2)
def mAnd (f g : TM) : TM := fun R env S => (f R env S).bind fun x => if x.1 = true then g R env x.2 else some (false, x.2)
def mOr (f g : TM) : TM := fun R env S => (f R env S).bind fun x => if x.1 = true then some (true, x.2) else g R env x.2
/-- < of < : both, the middle once -/
def mChain (g g' : D → D → Option D) (fa fb fc : XM) : TM := fun R env S => (fa R env S).bind fun x => (fb R env x.2).bind fun y => ((g x.1 y.1).bind blD).bind fun k =>
  if k = true then (fc R env y.2).bind fun z => ((g' y.1 z.1).bind blD).map fun k' => (k', z.2) else some (false, y.2)
def xChain (g g' : D → D → Option D) (fa fb fc : XM) : XM := fun R env S => (fa R env S).bind fun x => (fb R env x.2).bind fun y => ((g x.1 y.1).bind blD).bind fun k =>
  if k = true then (fc R env y.2).bind fun z => (g' y.1 z.1).map fun d => (d, z.2) else some (.bl false, y.2)

theorem blD_some {d : D} {b : Bool} (h : blD d = some b) : d = .bl b := by
  cases d <;> simp [blD] at h
  subst h
  rfl
theorem rep_bl {K : PySem.W.Frag} {B : Addr → Prop} {H : Hp} {v : V} {b : Bool} (h : Rep K p B H v (.bl b)) : v = .bl b := by
  cases h
  rfl
theorem it_bl {f : XM} {R : RC} (h : PT X e (tTest (tI X.K p (f R)))) : PT X e (tTI X.K p (mBl f R)) := h.imp fun σ H Q q => by
  obtain ⟨env, S, B0, oa, f0, w, e1, k⟩ := q
  unfold mBl at e1
  obtain ⟨x, ex, e1⟩ := Option.bind_eq_some_iff.mp e1
  obtain ⟨b, eb, e1⟩ := Option.map_eq_some_iff.mp e1
  subst e1
  refine ⟨env, S, B0, oa, f0, x, ex, fun v H1 f1 k1 r1 => ?_⟩
  rw [blD_some eb] at r1
  exact ⟨b, rep_bl r1, k H1 f1 k1⟩
theorem pt_tB {t : TE} (h : PT X e (tB t)) : PT X e (tTest t) := h
/-- the test by an expression's truth -/
theorem it_tru {f : XM} {R : RC} (h : PE X e (tI X.K p (f R))) (he : ∀ whole, isTrue e X.env whole = (do let v ← whole; standAt e.pos; holding [v] (truthy v))) : PT X e (tTI X.K p (mTru f R)) := (pt_truth h he).imp fun σ H Q q => by
  obtain ⟨env, S, B0, oa, f0, w, e1, k⟩ := q
  unfold mTru at e1
  obtain ⟨x, ex, e1⟩ := Option.bind_eq_some_iff.mp e1
  obtain ⟨b, eb, e1⟩ := Option.map_eq_some_iff.mp e1
  subst e1
  refine ⟨env, S, B0, oa, f0, x, ex, fun v H1 f1 k1 r1 => ⟨b, ?_, k H1 f1 k1⟩⟩
  generalize hx : x.1 = d at r1 eb
  cases r1 with
  | non => cases eb; exact (rfl : false = false)
  | bl b' => exact (Option.some.inj eb).symm
  | int i => cases eb; exact (rfl : (i != 0) = (i != 0))
  | str _ => cases eb
  | ty _ => cases eb
  | tup hs hr =>
    cases eb
    refine .inr (.inl ⟨_, hs.t, ?_⟩)
    cases hr <;> rfl
  | lst hs hn hr =>
    cases eb
    refine .inl ⟨_, .inl (.inl hs), ?_⟩
    cases hr <;> rfl
  | dic _ _ _ _ => cases eb
  | rng _ _ => cases eb
  | pool => cases eb
  | ins _ _ _ _ _ => cases eb
theorem it_not {f : TM} {R : RC} (h : PT X a (tTI X.K p (f R))) : PT X (.UnaryOp .Not a pos) (tTI X.K p (mNot f R)) := (pt_not h).imp fun σ H Q q => by
  obtain ⟨env, S, B0, oa, f0, w, e1, k⟩ := q
  unfold mNot at e1
  obtain ⟨x, ex, e1⟩ := Option.map_eq_some_iff.mp e1
  subst e1
  exact ⟨env, S, B0, oa, f0, x, ex, fun H1 f1 k1 => k H1 f1 k1⟩
theorem iw_and1 {f : TM} {R : RC} (h : PT X a (tTI X.K p (f R))) : PW X (.BoolOp .And [a] pos) (tTI X.K p (f R)) := pw_and1 h
theorem iw_or1 {f : TM} {R : RC} (h : PT X a (tTI X.K p (f R))) : PW X (.BoolOp .Or [a] pos) (tTI X.K p (f R)) := pw_or1 h
theorem iw_and {f g : TM} {R : RC} {rest : List Expr} (h : PT X a (tTI X.K p (f R))) (h2 : PW X (.BoolOp .And (b :: rest) pos) (tTI X.K p (g R))) : PW X (.BoolOp .And (a :: b :: rest) pos) (tTI X.K p (mAnd f g R)) := (pw_and h h2).imp fun σ H Q q => by
  obtain ⟨env, S, B0, oa, f0, w, e1, k⟩ := q
  unfold mAnd at e1
  obtain ⟨x, ex, e1⟩ := Option.bind_eq_some_iff.mp e1
  refine ⟨env, S, B0, oa, f0, x, ex, fun H1 f1 k1 => ?_⟩
  by_cases hx : x.1 = true
  · rw [if_pos hx] at e1
    rw [if_pos hx]
    exact ⟨env, _, B0, oa, f1, w, e1, fun H2 f2 k2 => k H2 f2 (k1.trans k2)⟩
  · rw [if_neg hx] at e1
    rw [if_neg hx]
    cases e1
    exact k H1 f1 k1
theorem iw_or {f g : TM} {R : RC} {rest : List Expr} (h : PT X a (tTI X.K p (f R))) (h2 : PW X (.BoolOp .Or (b :: rest) pos) (tTI X.K p (g R))) : PW X (.BoolOp .Or (a :: b :: rest) pos) (tTI X.K p (mOr f g R)) := (pw_or h h2).imp fun σ H Q q => by
  obtain ⟨env, S, B0, oa, f0, w, e1, k⟩ := q
  unfold mOr at e1
  obtain ⟨x, ex, e1⟩ := Option.bind_eq_some_iff.mp e1
  refine ⟨env, S, B0, oa, f0, x, ex, fun H1 f1 k1 => ?_⟩
  by_cases hx : x.1 = true
  · rw [if_pos hx] at e1
    rw [if_pos hx]
    cases e1
    exact k H1 f1 k1
  · rw [if_neg hx] at e1
    rw [if_neg hx]
    exact ⟨env, _, B0, oa, f1, w, e1, fun H2 f2 k2 => k H2 f2 (k1.trans k2)⟩
theorem chain_tI {r r' : R2} {g g' : D → D → Option D} {fa fb fc : XM} {R : RC} {K : PySem.W.Frag} (hg : VR2 K p r g) (hg' : VR2 K p r' g') {σ : L2.St} {H : Hp} {Q : VK} (q : tI K p (xChain g g' fa fb fc R) σ H Q) :
    tChain r r' (tI K p (fa R)) (tI K p (fb R)) (tI K p (fc R)) σ H Q := by
  obtain ⟨env, S, B0, oa, f, w, e1, k⟩ := q
  unfold xChain at e1
  obtain ⟨x, ex, e1⟩ := Option.bind_eq_some_iff.mp e1
  obtain ⟨y, ey, e1⟩ := Option.bind_eq_some_iff.mp e1
  obtain ⟨c0, ec, e1⟩ := Option.bind_eq_some_iff.mp e1
  obtain ⟨d, ed, ec⟩ := Option.bind_eq_some_iff.mp ec
  have hd := blD_some ec
  subst hd
  refine ⟨env, S, B0, oa, f, x, ex, fun v H1 f1 k1 r1 => ⟨env, _, B0, oa, f1, y, ey, fun u H2 f2 k2 r2 => ?_⟩⟩
  refine hg _ H2 v u _ _ _ _ f2.mut (r1.keep f1 k2) r2 ed fun z H3 s3 r3 => ⟨c0, rep_bl r3, ?_⟩
  by_cases hc : c0 = true
  · rw [if_pos hc] at e1
    rw [if_pos hc]
    obtain ⟨y3, e3, e1⟩ := Option.bind_eq_some_iff.mp e1
    obtain ⟨d4, e4, e1⟩ := Option.map_eq_some_iff.mp e1
    subst e1
    have f3 := f2.same s3
    refine ⟨env, _, B0, oa, f3, y3, e3, fun u4 H4 f4 k4 r4 => ?_⟩
    exact hg' _ H4 u u4 _ _ _ _ f4.mut ((r2.same s3).keep f3 k4) r4 e4 fun z5 H5 s5 r5 => k z5 H5 (f4.same s5) ((((k1.trans k2).trans (Keep.of s3)).trans k4).trans (Keep.of s5)) r5
  · rw [if_neg hc] at e1
    rw [if_neg hc]
    cases e1
    exact k _ H3 (f2.same s3) ((k1.trans k2).trans (Keep.of s3)) (.bl false)

/-! ### and, or, not, if as values -/
def xAnd (f g : XM) : XM := fun R env S => (f R env S).bind fun x => (blD x.1).bind fun c => if c = true then g R env x.2 else some (.bl false, x.2)
def xOr (f g : XM) : XM := fun R env S => (f R env S).bind fun x => (blD x.1).bind fun c => if c = true then some (.bl true, x.2) else g R env x.2
def xNot (f : XM) : XM := fun R env S => (f R env S).bind fun x => (blD x.1).map fun c => (.bl (!c), x.2)
def xIf (t : TM) (f g : XM) : XM := fun R env S => (t R env S).bind fun x => if x.1 = true then f R env x.2 else g R env x.2
theorem ie_and {f g : XM} {R : RC} {rest : List Expr} (h : PE X a (tI X.K p (f R))) (h2 : PE X (.BoolOp .And (b :: rest) pos) (tI X.K p (g R))) : PE X (.BoolOp .And (a :: b :: rest) pos) (tI X.K p (xAnd f g R)) := (pe_and h h2).imp fun σ H Q q => by
  obtain ⟨env, S, B0, oa, f0, w, e1, k⟩ := q
  unfold xAnd at e1
  obtain ⟨x, ex, e1⟩ := Option.bind_eq_some_iff.mp e1
  obtain ⟨c, ec, e1⟩ := Option.bind_eq_some_iff.mp e1
  refine ⟨env, S, B0, oa, f0, x, ex, fun v H1 f1 k1 r1 => ?_⟩
  rw [blD_some ec] at r1
  refine ⟨c, rep_bl r1, ?_⟩
  by_cases hx : c = true
  · rw [if_pos hx] at e1
    rw [if_pos hx]
    exact ⟨env, _, B0, oa, f1, w, e1, fun v2 H2 f2 k2 r2 => k v2 H2 f2 (k1.trans k2) r2⟩
  · rw [if_neg hx] at e1
    rw [if_neg hx]
    cases e1
    exact k _ H1 f1 k1 (.bl false)
theorem ie_or {f g : XM} {R : RC} {rest : List Expr} (h : PE X a (tI X.K p (f R))) (h2 : PE X (.BoolOp .Or (b :: rest) pos) (tI X.K p (g R))) : PE X (.BoolOp .Or (a :: b :: rest) pos) (tI X.K p (xOr f g R)) := (pe_or h h2).imp fun σ H Q q => by
  obtain ⟨env, S, B0, oa, f0, w, e1, k⟩ := q
  unfold xOr at e1
  obtain ⟨x, ex, e1⟩ := Option.bind_eq_some_iff.mp e1
  obtain ⟨c, ec, e1⟩ := Option.bind_eq_some_iff.mp e1
  refine ⟨env, S, B0, oa, f0, x, ex, fun v H1 f1 k1 r1 => ?_⟩
  rw [blD_some ec] at r1
  refine ⟨c, rep_bl r1, ?_⟩
  by_cases hx : c = true
  · rw [if_pos hx] at e1
    rw [if_pos hx]
    cases e1
    exact k _ H1 f1 k1 (.bl true)
  · rw [if_neg hx] at e1
    rw [if_neg hx]
    exact ⟨env, _, B0, oa, f1, w, e1, fun v2 H2 f2 k2 r2 => k v2 H2 f2 (k1.trans k2) r2⟩
theorem ie_not {f : XM} {R : RC} (h : PE X a (tI X.K p (f R))) : PE X (.UnaryOp .Not a pos) (tI X.K p (xNot f R)) := (pe_not h).imp fun σ H Q q => by
  obtain ⟨env, S, B0, oa, f0, w, e1, k⟩ := q
  unfold xNot at e1
  obtain ⟨x, ex, e1⟩ := Option.bind_eq_some_iff.mp e1
  obtain ⟨c, ec, e1⟩ := Option.map_eq_some_iff.mp e1
  subst e1
  refine ⟨env, S, B0, oa, f0, x, ex, fun v H1 f1 k1 r1 => ?_⟩
  rw [blD_some ec] at r1
  exact ⟨c, rep_bl r1, k _ H1 f1 k1 (.bl _)⟩
theorem ie_if {t : TM} {f g : XM} {R : RC} (ht : PT X c (tTI X.K p (t R))) (h : PE X a (tI X.K p (f R))) (h2 : PE X b (tI X.K p (g R))) : PE X (.IfExp c a b pos) (tI X.K p (xIf t f g R)) := (pe_ifExp ht h h2).imp fun σ H Q q => by
  obtain ⟨env, S, B0, oa, f0, w, e1, k⟩ := q
  unfold xIf at e1
  obtain ⟨x, ex, e1⟩ := Option.bind_eq_some_iff.mp e1
  refine ⟨env, S, B0, oa, f0, x, ex, fun H1 f1 k1 => ?_⟩
  by_cases hx : x.1 = true
  · rw [if_pos hx] at e1
    rw [if_pos hx]
    exact ⟨env, _, B0, oa, f1, w, e1, fun v2 H2 f2 k2 r2 => k v2 H2 f2 (k1.trans k2) r2⟩
  · rw [if_neg hx] at e1
    rw [if_neg hx]
    exact ⟨env, _, B0, oa, f1, w, e1, fun v2 H2 f2 k2 r2 => k v2 H2 f2 (k1.trans k2) r2⟩

/-! ### arguments, displays -/
def aNil : AM := fun _ _ S => some ([], S)
def aCons (f : XM) (g : AM) : AM := fun R env S => (f R env S).bind fun x => (g R env x.2).map fun y => (x.1 :: y.1, y.2)
theorem ia_nil {R : RC} : PA X [] (tAI X.K p (aNil R)) := pa_nil.imp fun σ H Q q => by
  obtain ⟨env, S, B0, oa, f0, w, e1, k⟩ := q
  cases e1
  exact k [] H f0 (Keep.refl p H) .nil
theorem ia_cons {f : XM} {g : AM} {R : RC} {es : List Expr} (h : PE X e (tI X.K p (f R))) (h2 : PA X es (tAI X.K p (g R))) (hs : starEach (e :: es) X.env = (false, eval e X.env) :: starEach es X.env) : PA X (e :: es) (tAI X.K p (aCons f g R)) := (pa_cons h h2 hs).imp fun σ H Q q => by
  obtain ⟨env, S, B0, oa, f0, w, e1, k⟩ := q
  unfold aCons at e1
  obtain ⟨x, ex, e1⟩ := Option.bind_eq_some_iff.mp e1
  obtain ⟨y, ey, e1⟩ := Option.map_eq_some_iff.mp e1
  subst e1
  exact ⟨env, S, B0, oa, f0, x, ex, fun v H1 f1 k1 r1 => ⟨env, _, B0, oa, f1, y, ey, fun vs H2 f2 k2 r2 => k _ H2 f2 (k1.trans k2) (.cons (r1.keep f1 k2) r2)⟩⟩
theorem same_new {H : Hp} {a : Addr} {o : HO} (h : H a = none) : Same H (upd H a o) := fun b u q => by
  rw [upd_ne (ne_of_none q h)]
  exact q
/-- a tuple is laid -/
theorem Reps.tup {K : PySem.W.Frag} {B : Addr → Prop} {H : Hp} {vs : List V} {ds : List D} {a : Addr} (r : Reps K p B H vs ds) (hn : H a = none) {o : Obj} (ho : o.dict = none) : Rep K p B (upd H a (.frz o (.tup vs))) (.ref a) (.tup ds) :=
  .tup (.inl ⟨o, ho, upd_same⟩) (r.same (same_new hn))
theorem Reps.lst {K : PySem.W.Frag} {B : Addr → Prop} {H : Hp} {vs : List V} {ds : List D} {a : Addr} (r : Reps K p B H vs ds) (hm : HM B H) (hn : H a = none) : Rep K p B (upd H a (.lst vs)) (.ref a) (.lst ds) :=
  .lst upd_same (hm.new hn) (r.same (same_new hn))
def xTup (f : AM) : XM := fun R env S => (f R env S).bind fun x => if x.1.length ≤ sizeLine then some (.tup x.1, x.2) else none
/-- a new list -/
abbrev LM := RC → En → List D → Option (List D × List D)
def lDisp (f : AM) : LM := fun R env S => (f R env S).bind fun x => if x.1.length ≤ sizeLine then some x else none
/-- a new list taken as data -/
def xLst (f : LM) : XM := fun R env S => (f R env S).map fun x => (.lst x.1, x.2)
/-- a tuple's display: the new object has no dict -/
def tTupN (t : TA) : TE := fun σ H Q => t σ H fun xs H1 => xs.length ≤ sizeLine ∧ ∀ (a : Addr) (o : Obj), o.dict = none → H1 a = none → Q (.ref a) (upd H1 a (.frz o (.tup xs)))
theorem pe_tupN {es : List Expr} {t : TA} {x1} (h : PA X es t) : PE X (.Tuple es x1 pos) (tTupN t) := by
  refine ⟨fun pins s σ H Q I hq => ?_⟩
  refine wpAny_Tuple_spliced (thn (h.run pos pins s σ H _ I hq) fun us s1 ⟨xs, H1, I1, r, z, q⟩ => ⟨by rw [← r.length]; exact z, ?_⟩)
  refine ⟨.ref s1.heap.objs.size, upd H1 s1.heap.objs.size (.frz { cls := .type "tuple", data := .seq us.toArray } (.tup xs)), I1.laid (t' := s1.toks) (fun b u e => Heap.get?_push_of_some _ e) (Nat.le_refl _) ?_, rfl, q _ _ rfl (I1.hok.fresh (Nat.le_refl _))⟩
  exact ⟨Heap.get?_push_size _ rfl, z, us, r, ⟨_, Heap.get?_push_size _ rfl, rfl, _, rfl⟩⟩
theorem ie_tup {f : AM} {R : RC} {es : List Expr} {x1} (h : PA X es (tAI X.K p (f R))) : PE X (.Tuple es x1 pos) (tI X.K p (xTup f R)) := (pe_tupN h).imp fun σ H Q q => by
  obtain ⟨env, S, B0, oa, f0, w, e1, k⟩ := q
  unfold xTup at e1
  obtain ⟨x, ex, e1⟩ := Option.bind_eq_some_iff.mp e1
  by_cases hl : x.1.length ≤ sizeLine
  · rw [if_pos hl] at e1
    cases e1
    refine ⟨env, S, B0, oa, f0, x, ex, fun vs H1 f1 k1 r1 => ⟨by rw [r1.length]; exact hl, fun a o ho ha => ?_⟩⟩
    exact k _ _ (f1.same (same_new ha)) (k1.trans (Keep.of (same_new ha))) (r1.tup ha ho)
  · rw [if_neg hl] at e1
    cases e1
/-- what a new list's reading gives: nothing held it -/
theorem lst_tLI {f : LM} {R : RC} {K : PySem.W.Frag} {σ : L2.St} {H : Hp} {Q : VK} (q : tI K p (xLst f R) σ H Q) : tLI K p (f R) σ H Q := by
  obtain ⟨env, S, B0, oa, f0, w, e1, k⟩ := q
  unfold xLst at e1
  obtain ⟨x, ex, e1⟩ := Option.map_eq_some_iff.mp e1
  subst e1
  refine ⟨env, S, B0, oa, f0, x, ex, fun a vs H1 f1 k1 ha hv r1 => ?_⟩
  have nb : ¬ Bf B0 p oa a := f0.new ha
  refine k _ H1 f1.unshun k1 (.lst hv nb (r1.less fun b h => ?_))
  rcases h with h | h
  · exact .inl (.inl h)
  · exact .inr h
theorem ie_lst {f : LM} {R : RC} (h : PE X e (tLI X.K p (f R))) : PE X e (tI X.K p (xLst f R)) := h.imp fun σ H Q q => lst_tLI q
/-- a new list by an operation on values that lays it -/
theorem new_tLI {K : PySem.W.Frag} {B0 : Addr → Prop} {oa : Oa} {env : En} {σ : L2.St} {H : Hp} {S : List D} (f : FI K p B0 oa env σ H S) {vs : List V} {ds : List D} {a : Addr} (ha : H a = none) (r : Reps K p (Bf B0 p oa) H vs ds) :
    FI K p (fun b => B0 b ∨ b = a) oa env σ (upd H a (.lst vs)) S ∧ Reps K p (Bf (fun b => B0 b ∨ b = a) p oa) (upd H a (.lst vs)) vs ds := by
  refine ⟨f.shun ha trivial, r.move (fun b o _ q => same_new ha b o q) (fun b h => ?_) f.mut⟩
  rcases h with (h | h) | h | h
  · exact .inl (.inl h)
  · exact .inr (h ▸ ha)
  · exact .inl (.inr (.inl h))
  · exact .inl (.inr (.inr h))
theorem il_disp {f : AM} {R : RC} {es : List Expr} (h : PA X es (tAI X.K p (f R))) : PE X (.List es pos) (tLI X.K p (lDisp f R)) := (pe_lst h).imp fun σ H Q q => by
  obtain ⟨env, S, B0, oa, f0, w, e1, k⟩ := q
  unfold lDisp at e1
  obtain ⟨x, ex, e1⟩ := Option.bind_eq_some_iff.mp e1
  by_cases hl : x.1.length ≤ sizeLine
  · rw [if_pos hl] at e1
    have e2 : x = w := Option.some.inj e1
    subst e2
    refine ⟨env, S, B0, oa, f0, x, ex, fun vs H1 f1 k1 r1 => ⟨by rw [r1.length]; exact hl, fun a ha => ?_⟩⟩
    obtain ⟨f2, r2⟩ := new_tLI f1 ha r1
    refine k a vs _ f2 (k1.trans (Keep.of (same_new ha))) ?_ upd_same r2
    cases hq : H a with
    | none => rfl
    | some o =>
      by_cases hp : a = p
      · subst hp
        exact absurd ha f1.pool.some
      · rw [k1 a o hp hq] at ha
        cases ha
  · rw [if_neg hl] at e1
    cases e1

/-! ### calls of defs -/
def xCall (x : Str) (f : AM) : XM := fun R env S => (f R env S).bind fun y => R x y.1 y.2
theorem call_tI {K : PySem.W.Frag} {f : AM} {R : RC} {x : Str} {n : Nat} {E : XK} {σ : L2.St} {H : Hp} {Q : VK} (hn : ∀ env S r, f R env S = some r → r.1.length = n) (q : tI K p (xCall x f R) σ H Q) : tCall (spI K p n (R x)) [] E (tAI K p (f R)) σ H Q := by
  obtain ⟨env, S, B0, oa, f0, w, e1, k⟩ := q
  unfold xCall at e1
  obtain ⟨y, ey, e1⟩ := Option.bind_eq_some_iff.mp e1
  refine ⟨env, S, B0, oa, f0, y, ey, fun vs H1 f1 k1 r1 => ?_⟩
  have hb : ∀ b, Bf (Bf B0 p oa) p oa0 b → Bf B0 p oa b := fun b h => by
    rcases h with h | h | h
    · exact h
    · exact .inr (.inl h)
    · exact absurd h own0
  have hb' : ∀ b, Bf B0 p oa b → Bf (Bf B0 p oa) p oa0 b := fun b h => .inl h
  obtain ⟨ps, e2, r2⟩ := f1.pool
  refine ⟨y.1, y.2, Bf B0 p oa, by rw [List.append_nil, r1.length]; exact hn _ _ _ ey, by rw [List.append_nil]; exact r1.less hb, f1.mut, ⟨ps, e2, r2.less hb⟩, w, e1, fun v H2 k2 p2 r3 => ?_⟩
  obtain ⟨ps2, e3, r4⟩ := p2
  exact k v H2 (f1.keep k2 ⟨ps2, e3, r4.less hb'⟩) (k1.trans k2) (r3.less hb')
theorem ie_call {f : AM} {R : RC} {x : Str} {n : Nat} {es : List Expr} {fa : Addr} {fd : FuncData} {ps : List Str} {k : Nat} {pf : Pos} (F : FnOk X.prog X.w X.K X.mg X.base CX0 k fa fd ps (spI X.K p n (R x))) (hr : Room k X.A) (hg : Gl X x) (hm : X.mg x = some (.ref fa)) (hk : PySem.W.keepIn X.K (.ref fa) = true) (hb : Binds X.K fd ps [])
    (hn : ∀ env S r, f R env S = some r → r.1.length = n) (ha : PA X (e :: es) (tAI X.K p (f R))) (hdb : (x == ("__debug__" : Str)) = false) (he : starEach (e :: es) X.env = (false, eval e X.env) :: starEach es X.env) (hpl : (backTo pos (starEach es X.env)).any (·.1) = false) :
    PE X (.Call (.Name x pf) (e :: es) [] pos) (tI X.K p (xCall x f R)) := (pe_call F hr hg hm hk hb .nil pass0 ha hdb he hpl).imp fun σ H Q q => call_tI hn q
theorem ie_call0 {R : RC} {x : Str} {fa : Addr} {fd : FuncData} {ps : List Str} {k : Nat} {pf : Pos} (F : FnOk X.prog X.w X.K X.mg X.base CX0 k fa fd ps (spI X.K p 0 (R x))) (hr : Room k X.A) (hg : Gl X x) (hm : X.mg x = some (.ref fa)) (hk : PySem.W.keepIn X.K (.ref fa) = true) (hb : Binds X.K fd ps [])
    (hdb : (x == ("__debug__" : Str)) = false) : PE X (.Call (.Name x pf) [] [] pos) (tI X.K p (xCall x aNil R)) := (pe_call0 F hr hg hm hk hb .nil pass0 hdb).imp fun σ H Q q => by
  have z := call_tI (E := E0) (fun env S r h => by cases h; rfl) q
  obtain ⟨env, S, B0, oa, f0, w, e1, k⟩ := z
  cases e1
  exact k [] H f0 (Keep.refl p H) .nil
/-- a builtin, a builtin class called -/
theorem ie_callB {id : String} {r : List V → Hp → VK → Prop} {g : List D → Option D} {f : AM} {R : RC} {x : Str} {es : List Expr} {pf : Pos} (hc : CallR X (.builtin id) r) (hv : VRA X.K p r g) (hg : Gl X x) (hm : X.mg x = none) (hb : bootBuiltins x = some (.builtin id)) (ha : PA X (e :: es) (tAI X.K p (f R)))
    (hn : x ≠ "__name__") (hdb : (x == ("__debug__" : Str)) = false) (he : starEach (e :: es) X.env = (false, eval e X.env) :: starEach es X.env) (hpl : (backTo pos (starEach es X.env)).any (·.1) = false) :
    PE X (.Call (.Name x pf) (e :: es) [] pos) (tI X.K p (xApp g f R)) := (pe_callB hc hg hm hb ha hn hdb he hpl).imp fun σ H Q q => app_tI hv q
theorem ie_callTy {T : String} {r : List V → Hp → VK → Prop} {g : List D → Option D} {f : AM} {R : RC} {x : Str} {es : List Expr} {pf : Pos} (hc : CallR X (.type T) r) (hv : VRA X.K p r g) (hg : Gl X x) (hm : X.mg x = none) (hb : bootBuiltins x = some (.type T)) (ha : PA X (e :: es) (tAI X.K p (f R)))
    (hn : x ≠ "__name__") (hdb : (x == ("__debug__" : Str)) = false) (he : starEach (e :: es) X.env = (false, eval e X.env) :: starEach es X.env) (hpl : (backTo pos (starEach es X.env)).any (·.1) = false) :
    PE X (.Call (.Name x pf) (e :: es) [] pos) (tI X.K p (xApp g f R)) := (pe_callTy hc hg hm hb ha hn hdb he hpl).imp fun σ H Q q => app_tI hv q
end
end Ip

set_option maxHeartbeats 1000000
/-! IpC: what is walked, targets, statements. -/
namespace Ip
open PySem L2

inductive Fl where
  | nx | ret (d : D) | bk | ct
abbrev SM := RC → En → List D → Option (Fl × En × List D)
abbrev IM := RC → En → List D → Option (List D × List D)
abbrev RM := RC → En → List D → Option (SV × List D)

section
variable (K : PySem.W.Frag) (p : Addr)
def EndI (B0 : Addr → Prop) (oa : Oa) (H : Hp) (Dn : Ends) (fl : Fl) (env' : En) (S' : List D) : Prop := match fl with
  | .nx => ∀ σ' H' oa', FI K p B0 oa' env' σ' H' S' → Mv p oa oa' H H' → Dn.nx σ' H'
  | .bk => ∀ σ' H' oa', FI K p B0 oa' env' σ' H' S' → Mv p oa oa' H H' → Dn.bk σ' H'
  | .ct => ∀ σ' H' oa', FI K p B0 oa' env' σ' H' S' → Mv p oa oa' H H' → Dn.ct σ' H'
  | .ret d => ∀ v H', Mv p oa oa0 H H' → PoolOk K p (Bf B0 p oa0) H' S' → Rep K p (Bf B0 p oa0) H' v d → Dn.rt v H'
/-- a statement's reading by its meaning -/
def tIS (f : En → List D → Option (Fl × En × List D)) : TS := fun Dn σ H => ∃ env S B0 oa, FI K p B0 oa env σ H S ∧ ∃ r, f env S = some r ∧ EndI K p B0 oa H Dn r.1 r.2.1 r.2.2
theorem EndI.mv {K : PySem.W.Frag} {p : Addr} {B0 : Addr → Prop} {oa oa' : Oa} {H H' : Hp} {Dn : Ends} {fl : Fl} {env' : En} {S' : List D} (e : EndI K p B0 oa H Dn fl env' S') (m : Mv p oa oa' H H') : EndI K p B0 oa' H' Dn fl env' S' := by
  cases fl with
  | nx => exact fun σ' H2 oa2 f m2 => e σ' H2 oa2 f (m.trans m2)
  | bk => exact fun σ' H2 oa2 f m2 => e σ' H2 oa2 f (m.trans m2)
  | ct => exact fun σ' H2 oa2 f m2 => e σ' H2 oa2 f (m.trans m2)
  | ret d => exact fun v H2 m2 => e v H2 (m.trans m2)

/-- what an iterator gives: the data ds, from now on -/
def JOk (B : Addr → Prop) (H1 : Hp) (J : It) (ds : List D) : Prop := ∀ (B' : Addr → Prop) (H : Hp), (∀ b o, ¬ B b → H1 b = some o → H b = some o) → (∀ b, B' b → B b ∨ H1 b = none) → HM B' H →
  J.stop ds.length H ∧ ∀ (i : Nat) d, ds[i]? = some d → J.go i H ∧ ∀ x H', J.yld i H x H' → Same H H' ∧ Rep K p B' H' x d
def tII (f : En → List D → Option (List D × List D)) : TI := fun σ H R => ∃ env S B0 oa, FI K p B0 oa env σ H S ∧ ∃ r, f env S = some r ∧
  ∀ J H1, FI K p B0 oa env σ H1 r.2 → Keep p H H1 → JOk K p (Bf B0 p oa) H1 J r.1 → R J H1
end

section
variable {K : PySem.W.Frag} {p : Addr} {B : Addr → Prop} {H1 : Hp}
theorem jok_list {a : Addr} {vs : List V} {ds : List D} (h : H1 a = some (.lst vs)) (nb : ¬ B a) (r : Reps K p B H1 vs ds) (hm : HM B H1) : JOk K p B H1 (Itl K a) ds := fun B' H k hb hm' => by
  have hq : SqL K H a vs := .inl (.inl (k _ _ nb h))
  have r' : Reps K p B' H vs ds := r.move k hb hm
  have uq : ∀ ws, SqL K H a ws → ∀ (i : Nat) v, vs[i]? = some v → ∀ x, (∀ xs, SqL K H a xs → xs[i]? = some x) → x = v := fun ws _ i v e x f => by
    have := f vs hq
    rw [e] at this
    exact (Option.some.inj this).symm
  refine ⟨⟨vs, hq, by rw [r'.length]; exact Nat.le_refl _⟩, fun i d e => ?_⟩
  obtain ⟨v, ev, rv⟩ := r'.get e
  refine ⟨⟨vs, v, hq, ev⟩, fun x H' y => ?_⟩
  obtain ⟨rfl, f⟩ := y
  rw [uq vs hq i v ev x f]
  exact ⟨Same.refl _, rv⟩
theorem sqT_move {H : Hp} {a : Addr} {vs : List V} (h : SqT K H1 a vs) (k : ∀ b o, ¬ B b → H1 b = some o → H b = some o) (hm : HM B H1) : SqT K H a vs := by
  rcases h with (h | ⟨o, h⟩) | h
  · refine .inl (.inl (k _ _ (fun z => ?_) h))
    obtain ⟨o, e, m⟩ := hm a z
    rw [h] at e
    cases e
    exact m
  · refine .inl (.inr ⟨o, k _ _ (fun z => ?_) h⟩)
    obtain ⟨o', e, m⟩ := hm a z
    rw [h] at e
    cases e
    exact m
  · exact .inr h
theorem jok_tup {a : Addr} {vs : List V} {ds : List D} (h : SqT K H1 a vs) (r : Reps K p B H1 vs ds) (hm : HM B H1) : JOk K p B H1 (Itt K a) ds := fun B' H k hb hm' => by
  have hq : SqT K H a vs := sqT_move h k hm
  have r' : Reps K p B' H vs ds := r.move k hb hm
  refine ⟨⟨vs, hq, by rw [r'.length]; exact Nat.le_refl _⟩, fun i d e => ?_⟩
  obtain ⟨v, ev, rv⟩ := r'.get e
  refine ⟨⟨vs, v, hq, ev⟩, fun x H' y => ?_⟩
  obtain ⟨rfl, f⟩ := y
  have := f vs hq
  rw [ev] at this
  cases this
  exact ⟨Same.refl _, rv⟩
def irs (lo : Int) (n : Nat) : List D := (List.range n).map fun (i : Nat) => D.int (lo + (i : Int))
theorem irs_length (lo : Int) (n : Nat) : (irs lo n).length = n := by
  unfold irs
  rw [List.length_map, List.length_range]
theorem jok_rng {lo : Int} {n : Nat} : JOk K p B H1 (Itr lo n) (irs lo n) := fun B' H k hb hm' => by
  refine ⟨by rw [irs_length]; exact Nat.le_refl n, fun i d e => ?_⟩
  obtain ⟨hi, _⟩ := List.getElem?_eq_some_iff.mp e
  rw [irs_length] at hi
  refine ⟨hi, fun x H' y => ?_⟩
  obtain ⟨rfl, rfl⟩ := y
  refine ⟨Same.refl _, ?_⟩
  unfold irs at e
  rw [List.getElem?_map, List.getElem?_range hi] at e
  cases e
  exact .int _
end

section
variable {X : Cx} {p : Addr} {tg e a b c : Expr} {pos : Pos}
theorem _root_.L2.PI.imp {t t' : TI} (h : PI X tg e t) (f : ∀ σ H R, t' σ H R → t σ H R) : PI X tg e t' := ⟨fun pins s σ H R I q => h.run pins s σ H R I (f σ H R q)⟩
/-! ### what is walked -/
/-- a text's signs -/
def signsD (x : Str) : List D := x.cps.toList.map fun c => D.str ⟨#[c]⟩
theorem jok_str {K : PySem.W.Frag} {p : Addr} {B : Addr → Prop} {H1 : Hp} {x : Str} : JOk K p B H1 (Its x) (signsD x) := fun B' H k hb hm' => by
  have hl : (signsD x).length = x.cps.size := by
    unfold signsD
    rw [List.length_map, Array.length_toList]
  refine ⟨by rw [hl]; exact Nat.le_refl _, fun i d e => ?_⟩
  have hi : i < x.cps.size := by
    rw [← hl]
    exact (List.getElem?_eq_some_iff.mp e).1
  refine ⟨hi, fun v H' y => ?_⟩
  obtain ⟨rfl, c, hc, rfl⟩ := y
  refine ⟨Same.refl _, ?_⟩
  unfold signsD at e
  rw [List.getElem?_map, Array.getElem?_toList, hc] at e
  cases e
  exact .str _
def itD : D → Option (List D)
  | .lst xs => some xs
  | .tup xs => some xs
  | .rng lo hi => if -(2 ^ 62) ≤ lo ∧ lo < 2 ^ 62 ∧ -(2 ^ 62) ≤ hi ∧ hi < 2 ^ 62 then some (irs lo (hi - lo).toNat) else none
  | .str x => some (signsD x)
  | _ => none
def iOf (f : XM) : IM := fun R env S => (f R env S).bind fun x => (itD x.1).map fun ds => (ds, x.2)
/-- a list, a tuple, a range, by its value -/
def iSeq (K : PySem.W.Frag) (tl : TE) : TI := fun σ H R => tl σ H fun x H1 =>
  (∃ a, x = .ref a ∧ (∃ xs, SqL K H1 a xs) ∧ R (Itl K a) H1) ∨ (∃ a, x = .ref a ∧ (∃ xs, SqT K H1 a xs) ∧ R (Itt K a) H1) ∨
  (∃ a lo hi, x = .ref a ∧ H1 a = some (.rng lo hi) ∧ (-(2 ^ 62) ≤ lo ∧ lo < 2 ^ 62 ∧ -(2 ^ 62) ≤ hi ∧ hi < 2 ^ 62) ∧ R (Itr lo (hi - lo).toNat) H1) ∨ ∃ z, x = .str z ∧ R (Its z) H1
theorem pi_seq {l : Expr} {tl : TE} (hl : PE X l tl) : PI X tg l (iSeq X.K tl) := by
  refine ⟨fun pins s σ H R I h => ?_⟩
  refine thn (hl.run pins s σ H _ I h) fun v s1 ⟨x, H1, I1, r1, q1⟩ => ?_
  rcases q1 with ⟨a, e, ⟨xs, hq⟩, q⟩ | ⟨a, e, ⟨xs, hq⟩, q⟩ | ⟨a, lo, hi, e, hq, ⟨b1, b2, b3, b4⟩, q⟩ | ⟨z, e, q⟩
  · subst e
    cases r1
    obtain ⟨its, rv, pl, hz⟩ := I1.list hq
    refine wpAny_pyIter_list pl.isList ?_
    refine ⟨s1.heap.objs.size, [s1.heap.objs.size], _, _, H1, rfl, I1.kept (t' := s1.toks) fun b o e => Heap.get?_push_of_some _ e, turn_list a _, ⟨_, Heap.get?_push_size _ rfl, rfl, rfl⟩, fun b hb => ?_, q⟩
    have e : b = s1.heap.objs.size := by simpa using hb
    subst e
    exact I1.fpOk (Nat.le_refl _) (I1.hok.fresh (Nat.le_refl _))
  · subst e
    cases r1
    obtain ⟨its, rv, pt, hz⟩ := I1.tuple hq
    refine wpAny_pyIter_tuple (show s1.heap.IsTuple a its.toArray from pt) ?_
    refine ⟨s1.heap.objs.size, [s1.heap.objs.size], _, _, H1, rfl, I1.kept (t' := s1.toks) fun b o e => Heap.get?_push_of_some _ e, turn_tuple a _, ⟨_, Heap.get?_push_size _ rfl, rfl, rfl⟩, fun b hb => ?_, q⟩
    have e : b = s1.heap.objs.size := by simpa using hb
    subst e
    exact I1.fpOk (Nat.le_refl _) (I1.hok.fresh (Nat.le_refl _))
  · subst e
    cases r1
    obtain ⟨t, u, w, h0⟩ := (show ObjOk X.prog X.w H1 s1.heap a (.rng lo hi) from I1.hok a _ hq)
    refine wpAny_pyIter_range (show IsRange s1.heap a lo hi 1 t u w from h0) (small_one b1 b2 b3 b4) ?_
    refine ⟨s1.heap.objs.size, [s1.heap.objs.size], _, _, H1, rfl, I1.kept (t' := s1.toks) fun b o e => Heap.get?_push_of_some _ e, turn_range _ lo (hi - lo).toNat, ?_, fun b hb => ?_, q⟩
    · have e1 : lo + ((0 : Nat) : Int) * 1 = lo := by simp
      have e2 : (((hi - lo).toNat : Nat) : Int) - ((0 : Nat) : Int) = Builtin.Range.rangeSize lo hi 1 := by rw [rangeSize_one]; split <;> omega
      show IsRangeIter _ _ (lo + ((0 : Nat) : Int) * 1) ((((hi - lo).toNat : Nat) : Int) - ((0 : Nat) : Int)) 1
      rw [e1, e2]
      exact Heap.get?_push_size _ rfl
    · have e : b = s1.heap.objs.size := by simpa using hb
      subst e
      exact I1.fpOk (Nat.le_refl _) (I1.hok.fresh (Nat.le_refl _))
  · subst e
    obtain ⟨t, rfl⟩ := r1
    cases ha : z.cps.all (· < 128)
    · exact wpAny_pyIter_wide ha (pi_one (tk := s1.toks) I1 _ (turn_str _ z t "str_iterator" (.inr rfl)) ⟨_, Heap.get?_push_size _ rfl, rfl, rfl⟩ q)
    · exact wpAny_pyIter_ascii ha (pi_one (tk := s1.toks) I1 _ (turn_str _ z t "str_ascii_iterator" (.inl rfl)) ⟨_, Heap.get?_push_size _ rfl, rfl, rfl⟩ q)
theorem ii_seq {f : XM} {R : RC} (h : PE X e (tI X.K p (f R))) : PI X tg e (tII X.K p (iOf f R)) := (pi_seq h).imp fun σ H R' q => by
  obtain ⟨env, S, B0, oa, f0, w, e1, k⟩ := q
  unfold iOf at e1
  obtain ⟨x, ex, e1⟩ := Option.bind_eq_some_iff.mp e1
  obtain ⟨ds, ed, e1⟩ := Option.map_eq_some_iff.mp e1
  subst e1
  refine ⟨env, S, B0, oa, f0, x, ex, fun v H1 f1 k1 r1 => ?_⟩
  generalize hx : x.1 = d at r1 ed
  cases r1 with
  | non => cases ed
  | bl _ => cases ed
  | int _ => cases ed
  | str z => cases ed; exact .inr (.inr (.inr ⟨z, rfl, k _ H1 f1 k1 jok_str⟩))
  | ty _ => cases ed
  | tup hs hr =>
    cases ed
    exact .inr (.inl ⟨_, rfl, ⟨_, hs.t⟩, k _ H1 f1 k1 (jok_tup hs.t hr f1.mut)⟩)
  | lst hs hn hr =>
    cases ed
    exact .inl ⟨_, rfl, ⟨_, .inl (.inl hs)⟩, k _ H1 f1 k1 (jok_list hs hn hr f1.mut)⟩
  | dic _ _ _ _ => cases ed
  | rng h1 h2 =>
    simp only [itD] at ed
    split at ed
    · rename_i hb
      cases ed
      exact .inr (.inr (.inl ⟨_, _, _, rfl, h1, hb, k _ H1 f1 k1 jok_rng⟩))
    · cases ed
  | pool => cases ed
  | ins _ _ _ _ _ => cases ed
def inR (i : Int) : Bool := decide (-(2 ^ 62) ≤ i ∧ i < 2 ^ 62)
def rng1 : List D → Option (List D)
  | [.int j] => if inR j then some (irs 0 j.toNat) else none
  | _ => none
def rng2 : List D → Option (List D)
  | [.int i, .int j] => if inR i && inR j then some (irs i (j - i).toNat) else none
  | _ => none
def iArg (g : List D → Option (List D)) (f : AM) : IM := fun R env S => (f R env S).bind fun x => (g x.1).map fun ds => (ds, x.2)
theorem ii_rng1 {f : AM} {R : RC} {pf : Pos} (hg : Gl X "range") (hm : X.mg "range" = none) (ha : PA X [a] (tAI X.K p (f R))) (hs : starEach [a] X.env = [(false, eval a X.env)]) : PI X tg (.Call (.Name "range" pf) [a] [] pos) (tII X.K p (iArg rng1 f R)) := (pi_range1 hg hm ha hs).imp fun σ H R' q => by
  obtain ⟨env, S, B0, oa, f0, w, e1, k⟩ := q
  unfold iArg at e1
  obtain ⟨x, ex, e1⟩ := Option.bind_eq_some_iff.mp e1
  obtain ⟨ds, ed, e1⟩ := Option.map_eq_some_iff.mp e1
  subst e1
  refine ⟨env, S, B0, oa, f0, x, ex, fun vs H1 f1 k1 r1 => ?_⟩
  generalize x.1 = as at r1 ed
  unfold rng1 at ed
  split at ed
  · rename_i j
    split at ed
    · rename_i hj
      cases ed
      have hj := of_decide_eq_true hj
      cases r1 with
      | cons r rr =>
        cases rr
        cases r
        exact ⟨j, rfl, hj.1, hj.2, k _ H1 f1 k1 jok_rng⟩
    · cases ed
  · cases ed
theorem ii_rng2 {f : AM} {R : RC} {pf : Pos} (hg : Gl X "range") (hm : X.mg "range" = none) (ha : PA X [a, b] (tAI X.K p (f R))) (hs : starEach [a, b] X.env = [(false, eval a X.env), (false, eval b X.env)]) (hs2 : starEach [b] X.env = [(false, eval b X.env)]) :
    PI X tg (.Call (.Name "range" pf) [a, b] [] pos) (tII X.K p (iArg rng2 f R)) := (pi_range2 hg hm ha hs hs2).imp fun σ H R' q => by
  obtain ⟨env, S, B0, oa, f0, w, e1, k⟩ := q
  unfold iArg at e1
  obtain ⟨x, ex, e1⟩ := Option.bind_eq_some_iff.mp e1
  obtain ⟨ds, ed, e1⟩ := Option.map_eq_some_iff.mp e1
  subst e1
  refine ⟨env, S, B0, oa, f0, x, ex, fun vs H1 f1 k1 r1 => ?_⟩
  generalize x.1 = as at r1 ed
  unfold rng2 at ed
  split at ed
  · rename_i i j
    split at ed
    · rename_i hj
      cases ed
      obtain ⟨h1, h2⟩ := Bool.and_eq_true_iff.mp hj
      have h1 := of_decide_eq_true h1
      have h2 := of_decide_eq_true h2
      cases r1 with
      | cons r rr =>
        cases rr with
        | cons r' rr' =>
          cases rr'
          cases r
          cases r'
          exact ⟨i, j, rfl, ⟨h1.1, h1.2, h2.1, h2.2⟩, k _ H1 f1 k1 jok_rng⟩
    · cases ed
  · cases ed

/-! ### targets -/
inductive Tg where
  | name (i : Nat) | tup (is : List Nat)
def putAll : List Nat → List D → En → En
  | i :: is, d :: ds, env => putAll is ds (env.set i (some (.sh d)))
  | _, _, env => env
def putT : Tg → D → En → Option En
  | .name i, d, env => some (env.set i (some (.sh d)))
  | .tup is, .tup ds, env => if ds.length = is.length then some (putAll is ds env) else none
  | .tup is, .lst ds, env => if ds.length = is.length then some (putAll is ds env) else none
  | _, _, _ => none
def Tg.slots : Tg → List Nat
  | .name i => [i]
  | .tup is => is
def TgOk (K : PySem.W.Frag) (p : Addr) (t : Tg) (g : TG) : Prop := ∀ (B0 : Addr → Prop) (oa : Oa) (env : En) (σ : L2.St) (H : Hp) (S : List D) (v : V) (d : D) (env' : En) (Q : L2.St → Hp → Prop),
  FI K p B0 oa env σ H S → Rep K p (Bf B0 p oa) H v d → putT t d env = some env' → (∀ σ' oa', FI K p B0 oa' env' σ' H S → Mv p oa oa' H H →
    (∀ vs : List Nat, (∀ i ∈ t.slots, i ∈ vs) → wipe σ' vs = wipe σ vs) → (∀ b, Own oa b → Own oa' b ∨ ∃ i ∈ t.slots, oa i = some b) → Q σ' H) → g v σ H Q
theorem wipe_set {σ : L2.St} {x : Option V} {i : Nat} : ∀ {vs : List Nat}, i ∈ vs → wipe (σ.set i x) vs = wipe σ vs
  | [], h => by cases h
  | v :: vs, h => by
    unfold wipe
    by_cases hi : i ∈ vs
    · rw [wipe_set hi]
    · have e : i = v := by
        rcases List.mem_cons.mp h with h | h
        · exact h
        · exact absurd h hi
      subst e
      have : ∀ ws : List Nat, i ∉ ws → wipe (σ.set i x) ws = (wipe σ ws).set i x := by
        intro ws
        induction ws with
        | nil => intro _; rfl
        | cons w ws ih =>
          intro hw
          have h1 : i ≠ w := fun z => hw (z ▸ List.mem_cons_self)
          have h2 : i ∉ ws := fun z => hw (List.mem_cons_of_mem _ z)
          show (wipe (σ.set i x) ws).set w none = ((wipe σ ws).set w none).set i x
          rw [ih h2, List.set_comm _ _ h1]
      rw [this vs hi, List.set_set]
theorem own_drop_back {oa : Oa} {i : Nat} {b : Addr} (h : Own oa b) : Own (oaDrop oa i) b ∨ oa i = some b := by
  obtain ⟨j, e⟩ := h
  by_cases hj : j = i
  · exact .inr (hj ▸ e)
  · exact .inl ⟨j, by unfold oaDrop; rw [if_neg hj]; exact e⟩
theorem tg_name {K : PySem.W.Frag} {i : Nat} : TgOk K p (.name i) (gName i) := fun B0 oa env σ H S v d env' Q f r e k => by
  cases e
  refine k _ _ (f.set i r) (Mv.drop i) (fun vs h => wipe_set (h i (by simp [Tg.slots]))) fun b h => ?_
  rcases own_drop_back (i := i) h with z | z
  · exact .inl z
  · exact .inr ⟨i, by simp [Tg.slots], z⟩
def gAll : List Nat → TGs
  | [] => gNil
  | i :: is => gCons (gName i) (gAll is)
theorem tg_all {K : PySem.W.Frag} : ∀ (is : List Nat) (ds : List D) (vs : List V) (B0 : Addr → Prop) (oa : Oa) (env : En) (σ : L2.St) (H : Hp) (S : List D) (Q : L2.St → Hp → Prop),
    FI K p B0 oa env σ H S → Reps K p (Bf B0 p oa) H vs ds → ds.length = is.length → (∀ σ' oa', FI K p B0 oa' (putAll is ds env) σ' H S → Mv p oa oa' H H →
      (∀ ws : List Nat, (∀ i ∈ is, i ∈ ws) → wipe σ' ws = wipe σ ws) → (∀ b, Own oa b → Own oa' b ∨ ∃ i ∈ is, oa i = some b) → Q σ' H) → gAll is vs σ H Q
  | [], [], vs, B0, oa, env, σ, H, S, Q, f, r, _, k => by
    cases r
    exact ⟨rfl, k σ oa f Mv.refl (fun _ _ => rfl) fun _ h => .inl h⟩
  | i :: is, d :: ds, vs, B0, oa, env, σ, H, S, Q, f, r, hl, k => by
    cases r with
    | cons r1 r2 =>
      refine ⟨_, _, rfl, ?_⟩
      refine tg_all is ds _ B0 _ _ _ H S Q (f.set i r1) (r2.less fun b => bf_drop) (by simpa using hl) fun σ' oa' f' m' w' o' => k σ' oa' f' ((Mv.drop i).trans m') (fun ws hw => ?_) fun b h => ?_
      · rw [w' ws fun j hj => hw j (List.mem_cons_of_mem _ hj), wipe_set (hw i List.mem_cons_self)]
      · rcases own_drop_back (i := i) h with z | z
        · rcases o' b z with z | ⟨j, hj, z⟩
          · exact .inl z
          · refine .inr ⟨j, List.mem_cons_of_mem _ hj, ?_⟩
            unfold oaDrop at z
            split at z
            · cases z
            · exact z
        · exact .inr ⟨i, List.mem_cons_self, z⟩
  | [], _ :: _, _, _, _, _, _, _, _, _, _, _, hl, _ => by simp at hl
  | _ :: _, [], _, _, _, _, _, _, _, _, _, _, hl, _ => by simp at hl
/-- a tuple's or a list's parts -/
def gSeq (K : PySem.W.Frag) (n : Nat) (t : TGs) : TG := fun v σ H Q => gTup K n t v σ H Q ∨ gUnl K n t v σ H Q
theorem pg_seq {X : Cx} {es : List Expr} {k : Nat} {t : TGs} {n : Nat} {pos : Pos} (hc : X.calm = true) (h : PGs X es t) (hn : (assignEach es X.env).length = n) (hst : (assignEach es X.env).findIdx? (·.1) = none) : PG X (.Tuple es k pos) (gSeq X.K n t) :=
  ⟨fun pins s σ H v u Q I r hw => by
    rcases hw with hw | hw
    · exact (pg_tup hc h hn hst).run pins s σ H v u Q I r hw
    · exact (pg_unl hc h hn hst).run pins s σ H v u Q I r hw⟩
theorem tg_tup {K : PySem.W.Frag} {is : List Nat} : TgOk K p (.tup is) (gSeq K is.length (gAll is)) := fun B0 oa env σ H S v d env' Q f r e k => by
  cases r with
  | tup hs hr =>
    simp only [putT] at e
    split at e
    · rename_i hl
      cases e
      exact .inl ⟨_, _, rfl, hs.t, by rw [hr.length]; exact hl, tg_all is _ _ B0 oa env σ H S Q f hr hl k⟩
    · cases e
  | lst hs nb hr =>
    simp only [putT] at e
    split at e
    · rename_i hl
      cases e
      exact .inr ⟨_, _, rfl, .inl (.inl hs), by rw [hr.length]; exact hl, tg_all is _ _ B0 oa env σ H S Q f hr hl k⟩
    · cases e
  | _ => cases e

/-! ### statements -/
def sNil : SM := fun _ env S => some (.nx, env, S)
def sSeq (f g : SM) : SM := fun R env S => (f R env S).bind fun r => match r.1 with
  | .nx => g R r.2.1 r.2.2
  | _ => some r
def sIf (t : TM) (f g : SM) : SM := fun R env S => (t R env S).bind fun x => if x.1 = true then f R env x.2 else g R env x.2
def sRet (f : XM) : SM := fun R env S => (f R env S).map fun x => (.ret x.1, env, x.2)
def sDrop (f : XM) : SM := fun R env S => (f R env S).map fun x => (.nx, env, x.2)
def sBk : SM := fun _ env S => some (.bk, env, S)
def sCt : SM := fun _ env S => some (.ct, env, S)
def sAsg (t : Tg) (f : XM) : SM := fun R env S => (f R env S).bind fun x => (putT t x.1 env).map fun env' => (.nx, env', x.2)
def sFrz (is : List Nat) (f : SM) : SM := fun R env S => f R (is.foldl freeze env) S
def forL (t : Tg) (b : En → List D → Option (Fl × En × List D)) : List D → En → List D → Option (Fl × En × List D)
  | [], env, S => some (.nx, env, S)
  | d :: ds, env, S => (putT t d env).bind fun env1 => (b env1 S).bind fun r => match r.1 with
    | .nx => forL t b ds r.2.1 r.2.2
    | .ct => forL t b ds r.2.1 r.2.2
    | .bk => some (.nx, r.2.1, r.2.2)
    | .ret d => some (.ret d, r.2.1, r.2.2)
def sFor (it : IM) (t : Tg) (b : SM) : SM := fun R env S => (it R env S).bind fun x => forL t (b R) x.1 env x.2
def whileL (t : En → List D → Option (Bool × List D)) (b : En → List D → Option (Fl × En × List D)) : Nat → En → List D → Option (Fl × En × List D)
  | 0, _, _ => none
  | n + 1, env, S => (t env S).bind fun x => if x.1 = true then (b env x.2).bind fun r => match r.1 with
      | .nx => whileL t b n r.2.1 r.2.2
      | .ct => whileL t b n r.2.1 r.2.2
      | .bk => some (.nx, r.2.1, r.2.2)
      | .ret d => some (.ret d, r.2.1, r.2.2)
    else some (.nx, env, x.2)
def sWhile (n : Nat) (t : TM) (b : SM) : SM := fun R env S => whileL (t R) (b R) n env S
end

section
variable {X : Cx} {p : Addr} {st : Stmt} {pos : Pos}
theorem _root_.L2.PS.imp {t t' : TS} (h : PS X st t) (f : ∀ Dn σ H, t' Dn σ H → t Dn σ H) : PS X st t' := ⟨fun pins s σ H Dn I q => h.run pins s σ H Dn I (f Dn σ H q)⟩
theorem _root_.L2.PSs.imp {sts : List Stmt} {t t' : TS} (h : PSs X sts t) (f : ∀ Dn σ H, t' Dn σ H → t Dn σ H) : PSs X sts t' := ⟨fun pins s σ H Dn I q => h.run pins s σ H Dn I (f Dn σ H q)⟩
theorem is_nil {R : RC} : PSs X [] (tIS X.K p (sNil R)) := pss_nil.imp fun Dn σ H q => by
  obtain ⟨env, S, B0, oa, f, r, e1, k⟩ := q
  cases e1
  exact k σ H oa f Mv.refl
theorem is_cons {f g : SM} {R : RC} {rest : List Stmt} (h1 : PS X st (tIS X.K p (f R))) (h2 : PSs X rest (tIS X.K p (g R))) : PSs X (st :: rest) (tIS X.K p (sSeq f g R)) := (pss_cons h1 h2).imp fun Dn σ H q => by
  obtain ⟨env, S, B0, oa, f0, w, e1, k⟩ := q
  unfold sSeq at e1
  obtain ⟨r, er, e1⟩ := Option.bind_eq_some_iff.mp e1
  refine ⟨env, S, B0, oa, f0, r, er, ?_⟩
  obtain ⟨fl, env1, S1⟩ := r
  cases fl with
  | nx => exact fun σ' H' oa' f' m' => ⟨env1, S1, B0, oa', f', w, e1, k.mv m'⟩
  | bk => cases e1; exact k
  | ct => cases e1; exact k
  | ret d => cases e1; exact k
theorem is_if {t : TM} {f g : SM} {R : RC} {c : Expr} {a b : List Stmt} (ht : PT X c (tTI X.K p (t R))) (h1 : PSs X a (tIS X.K p (f R))) (h2 : PSs X b (tIS X.K p (g R))) : PS X (.If c a b pos) (tIS X.K p (sIf t f g R)) := (ps_if ht h1 h2).imp fun Dn σ H q => by
  obtain ⟨env, S, B0, oa, f0, w, e1, k⟩ := q
  unfold sIf at e1
  obtain ⟨x, ex, e1⟩ := Option.bind_eq_some_iff.mp e1
  refine ⟨env, S, B0, oa, f0, x, ex, fun H1 f1 k1 => ?_⟩
  have m1 : Mv p oa oa H H1 := k1.mv f1.pool.some
  by_cases hx : x.1 = true
  · rw [if_pos hx] at e1
    dsimp only
    rw [if_pos hx]
    exact ⟨env, _, B0, oa, f1, w, e1, k.mv m1⟩
  · rw [if_neg hx] at e1
    dsimp only
    rw [if_neg hx]
    exact ⟨env, _, B0, oa, f1, w, e1, k.mv m1⟩
theorem FI.end_ {K : PySem.W.Frag} {B0 : Addr → Prop} {oa : Oa} {env : En} {σ : L2.St} {H H1 : Hp} {S : List D} (f1 : FI K p B0 oa env σ H1 S) (k1 : Keep p H H1) {v : V} {d : D} (r : Rep K p (Bf B0 p oa) H1 v d) :
    Mv p oa oa0 H H1 ∧ PoolOk K p (Bf B0 p oa0) H1 S ∧ Rep K p (Bf B0 p oa0) H1 v d := by
  have hb : ∀ b, Bf B0 p oa0 b → Bf B0 p oa b := fun b h => by
    rcases h with h | h | h
    · exact .inl h
    · exact .inr (.inl h)
    · exact absurd h own0
  obtain ⟨vs, e, q⟩ := f1.pool
  exact ⟨⟨fun b o n _ h => k1 b o n h, fun z => absurd z f1.pool.some, fun b h => absurd h own0⟩, ⟨vs, e, q.less hb⟩, r.less hb⟩
theorem is_ret {f : XM} {R : RC} {e : Expr} (h : PE X e (tI X.K p (f R))) : PS X (.Return (some e) pos) (tIS X.K p (sRet f R)) := (ps_ret h).imp fun Dn σ H q => by
  obtain ⟨env, S, B0, oa, f0, w, e1, k⟩ := q
  unfold sRet at e1
  obtain ⟨x, ex, e1⟩ := Option.map_eq_some_iff.mp e1
  subst e1
  refine ⟨env, S, B0, oa, f0, x, ex, fun v H1 f1 k1 r1 => ?_⟩
  obtain ⟨m, q, r⟩ := f1.end_ k1 r1
  exact k v H1 m q r
theorem is_drop {f : XM} {R : RC} {e : Expr} (h : PE X e (tI X.K p (f R))) (hs : swapsWith e none pos.line X.env = pure false) : PS X (.Expr e pos) (tIS X.K p (sDrop f R)) := (ps_expr h hs).imp fun Dn σ H q => by
  obtain ⟨env, S, B0, oa, f0, w, e1, k⟩ := q
  unfold sDrop at e1
  obtain ⟨x, ex, e1⟩ := Option.map_eq_some_iff.mp e1
  subst e1
  exact ⟨env, S, B0, oa, f0, x, ex, fun v H1 f1 k1 r1 => k σ H1 oa f1 (k1.mv f1.pool.some)⟩
theorem is_bk {R : RC} : PS X (.Break pos) (tIS X.K p (sBk R)) := ps_break.imp fun Dn σ H q => by
  obtain ⟨env, S, B0, oa, f, r, e1, k⟩ := q
  cases e1
  exact k σ H oa f Mv.refl
theorem is_ct {R : RC} : PS X (.Continue pos) (tIS X.K p (sCt R)) := ps_continue.imp fun Dn σ H q => by
  obtain ⟨env, S, B0, oa, f, r, e1, k⟩ := q
  cases e1
  exact k σ H oa f Mv.refl
theorem is_pass {R : RC} : PS X (.Pass pos) (tIS X.K p (sNil R)) := ps_pass.imp fun Dn σ H q => by
  obtain ⟨env, S, B0, oa, f, r, e1, k⟩ := q
  cases e1
  exact k σ H oa f Mv.refl
theorem asg_I {t : Tg} {g : TG} {f : XM} {R : RC} {K : PySem.W.Frag} (tk : TgOk K p t g) {Dn : Ends} {σ : L2.St} {H : Hp} (q : tIS K p (sAsg t f R) Dn σ H) : tAsg (tI K p (f R)) g Dn σ H := by
  obtain ⟨env, S, B0, oa, f0, w, e1, k⟩ := q
  unfold sAsg at e1
  obtain ⟨x, ex, e1⟩ := Option.bind_eq_some_iff.mp e1
  obtain ⟨env', ee, e1⟩ := Option.map_eq_some_iff.mp e1
  subst e1
  refine ⟨env, S, B0, oa, f0, x, ex, fun v H1 f1 k1 r1 => ?_⟩
  exact tk B0 oa env σ H1 _ v _ env' _ f1 r1 ee fun σ' oa' f2 m2 _ _ => k σ' H1 oa' f2 ((k1.mv f1.pool.some).trans m2)
theorem is_asg {t : Tg} {g : TG} {f : XM} {R : RC} {tg e : Expr} (tk : TgOk X.K p t g) (h : PE X e (tI X.K p (f R))) (hg : PG X tg g) (hs : swapsWithSole [tg] e pos.line X.env = pure false) (hw : swappedStores [tg] e X.env = pure none)
    (h1 : (assignEach [tg] X.env).map (·.2) = [assign tg X.env]) : PS X (.Assign [tg] e pos) (tIS X.K p (sAsg t f R)) := (ps_asg h hg hs hw h1).imp fun Dn σ H q => asg_I tk q
theorem is_set {i : Nat} {x : Str} {f : XM} {R : RC} {e : Expr} {pos' : Pos} (hN : X.N.Nodup) (hi : X.N[i]? = some x) (hx : Loc X.env.scope x) (h : PE X e (tI X.K p (f R))) (hs : swapsWith e (some (.Name x pos')) pos.line X.env = pure false) (hf : X.fn x = true ∨ X.env.scope.names.lookup x = some .local) :
    PS X (.Assign [.Name x pos'] e pos) (tIS X.K p (sAsg (.name i) f R)) := (ps_set hN hi hx h hs hf).imp fun Dn σ H q => asg_I tg_name q
theorem is_frz {f : SM} {R : RC} {is : List Nat} (h : PS X st (tIS X.K p (f R))) : PS X st (tIS X.K p (sFrz is f R)) := h.imp fun Dn σ H q => by
  obtain ⟨env, S, B0, oa, f0, w, e1, k⟩ := q
  obtain ⟨oa', f1, m1⟩ := f0.freezes is
  exact ⟨_, S, B0, oa', f1, w, e1, k.mv m1⟩
/-- for -/
theorem is_for {it : IM} {t : Tg} {g : TG} {f : SM} {R : RC} {tg iter : Expr} {body : List Stmt} (hp : PassesOwn (model X.prog X.w) X.A X.env X.xe) (hc : X.calm = true) (tk : TgOk X.K p t g) (hi : PI X tg iter (tII X.K p (it R))) (hg : PG X tg g) (hb : PSs X body (tIS X.K p (f R)))
    (hs : ∀ x, foldedSetIterable iter X.env x = pure x) : PS X (.For tg iter body [] pos) (tIS X.K p (sFor it t f R)) := (ps_for hp hc hi hg hb hs).imp fun Dn σ H q => by
  obtain ⟨env, S, B0, oa, f0, w, e1, k⟩ := q
  unfold sFor at e1
  obtain ⟨x, ex, e1⟩ := Option.bind_eq_some_iff.mp e1
  refine ⟨env, S, B0, oa, f0, x, ex, fun J H1 f1 k1 j => ?_⟩
  refine ⟨fun i m σ' H' => i + m = x.1.length ∧ ∃ env' S' oa', FI X.K p B0 oa' env' σ' H' S' ∧ Mv p oa oa' H1 H' ∧ forL t (f R) (x.1.drop i) env' S' = some w, ⟨x.1.length, by omega, env, x.2, oa, f1, Mv.refl, by rw [List.drop_zero]; exact e1⟩, fun i m σ' H' h => ?_⟩
  obtain ⟨hi, env', S', oa', f', m', e'⟩ := h
  have jk := j (Bf B0 p oa') H' (fun b o nb h => m'.kp b o (fun z => nb (.inr (.inl z))) (fun z => nb (.inr (.inr z))) h) (fun b h => by
    rcases h with h | h | h
    · exact .inl (.inl h)
    · exact .inl (.inr (.inl h))
    · rcases m'.nw b h with z | z
      · exact .inl (.inr (.inr z))
      · exact .inr z) f'.mut
  have m0 : Mv p oa oa' H H' := (k1.mv f1.pool.some).trans m'
  by_cases hx : i < x.1.length
  · have eg : x.1[i]? = some x.1[i] := List.getElem?_eq_getElem hx
    rw [List.drop_eq_getElem_cons hx] at e'
    simp only [forL] at e'
    obtain ⟨env1, ee, e'⟩ := Option.bind_eq_some_iff.mp e'
    obtain ⟨r, er, e'⟩ := Option.bind_eq_some_iff.mp e'
    obtain ⟨go, yl⟩ := jk.2 i _ eg
    refine .inr ⟨go, fun σ2 H2 => ∃ env2 S2 oa2, FI X.K p B0 oa2 env2 σ2 H2 S2 ∧ Mv p oa oa2 H1 H2 ∧ forL t (f R) (x.1.drop (i + 1)) env2 S2 = some w, fun σ2 H2 ⟨env2, S2, oa2, f2, m2, e2⟩ => ⟨m - 1, by omega, by omega, env2, S2, oa2, f2, m2, e2⟩, fun v H2 y => ?_⟩
    obtain ⟨s2, r2⟩ := yl v H2 y
    have f2 := f'.same s2
    have ms : Mv p oa' oa' H' H2 := (Keep.of s2).mv f2.pool.some
    refine tk B0 oa' env' σ' H2 S' v _ env1 _ f2 r2 ee fun σ3 oa3 f3 m3 _ _ => ?_
    refine ⟨env1, S', B0, oa3, f3, r, er, ?_⟩
    have m4 : Mv p oa' oa3 H' H2 := ms.trans m3
    obtain ⟨fl, env4, S4⟩ := r
    cases fl with
    | nx => exact fun σ5 H5 oa5 f5 m5 => ⟨env4, S4, oa5, f5, (m'.trans m4).trans m5, e'⟩
    | ct => exact fun σ5 H5 oa5 f5 m5 => ⟨env4, S4, oa5, f5, (m'.trans m4).trans m5, e'⟩
    | bk =>
      cases e'
      exact fun σ5 H5 oa5 f5 m5 => k σ5 H5 oa5 f5 ((m0.trans m4).trans m5)
    | ret d =>
      cases e'
      exact fun v5 H5 m5 p5 r5 => k v5 H5 ((m0.trans m4).trans m5) p5 r5
  · have hl : i = x.1.length := by omega
    subst hl
    rw [List.drop_length] at e'
    simp only [forL] at e'
    cases e'
    exact .inl ⟨jk.1, k σ' H' oa' f' m0⟩
/-- while -/
theorem is_while {n : Nat} {t : TM} {f : SM} {R : RC} {c : Expr} {body : List Stmt} (hp : PassesOwn (model X.prog X.w) X.A X.env X.xe) (ht : PT X c (tTI X.K p (t R))) (hb : PSs X body (tIS X.K p (f R))) : PS X (.While c body [] pos) (tIS X.K p (sWhile n t f R)) := (ps_while hp ht hb).imp fun Dn σ H q => by
  obtain ⟨env, S, B0, oa, f0, w, e1, k⟩ := q
  unfold sWhile at e1
  refine ⟨fun m σ' H' => ∃ env' S' oa', FI X.K p B0 oa' env' σ' H' S' ∧ Mv p oa oa' H H' ∧ whileL (t R) (f R) m env' S' = some w, ⟨n, env, S, oa, f0, Mv.refl, e1⟩, fun m σ' H' h => ?_⟩
  obtain ⟨env', S', oa', f', m', e'⟩ := h
  cases m with
  | zero => cases e'
  | succ m =>
    simp only [whileL] at e'
    obtain ⟨x, ex, e'⟩ := Option.bind_eq_some_iff.mp e'
    refine ⟨env', S', B0, oa', f', x, ex, fun H1 f1 k1 => ?_⟩
    have m1 : Mv p oa oa' H H1 := m'.trans (k1.mv f1.pool.some)
    by_cases hx : x.1 = true
    · rw [if_pos hx] at e'
      dsimp only
      rw [if_pos hx]
      obtain ⟨r, er, e'⟩ := Option.bind_eq_some_iff.mp e'
      refine ⟨fun σ2 H2 => ∃ env2 S2 oa2, FI X.K p B0 oa2 env2 σ2 H2 S2 ∧ Mv p oa oa2 H H2 ∧ whileL (t R) (f R) m env2 S2 = some w, fun σ2 H2 h2 => ⟨m, Nat.lt_succ_self m, h2⟩, env', _, B0, oa', f1, r, er, ?_⟩
      obtain ⟨fl, env4, S4⟩ := r
      cases fl with
      | nx => exact fun σ5 H5 oa5 f5 m5 => ⟨env4, S4, oa5, f5, m1.trans m5, e'⟩
      | ct => exact fun σ5 H5 oa5 f5 m5 => ⟨env4, S4, oa5, f5, m1.trans m5, e'⟩
      | bk =>
        cases e'
        exact fun σ5 H5 oa5 f5 m5 => k σ5 H5 oa5 f5 (m1.trans m5)
      | ret d =>
        cases e'
        exact fun v5 H5 m5 p5 r5 => k v5 H5 (m1.trans m5) p5 r5
    · rw [if_neg hx] at e'
      dsimp only
      rw [if_neg hx]
      cases e'
      exact k σ' H1 oa' f1 m1
end
end Ip

set_option maxHeartbeats 1000000
/-! IpD: list comprehensions; lists of the frame's own. -/
namespace Ip
open PySem L2

def notOwn (env : En) (i : Nat) : Bool := match env[i]? with
  | some (some (.own _)) => false
  | some (some (.ownD _ _)) => false
  | _ => true
def wipeE (env : En) : List Nat → En
  | [] => env
  | v :: vs => (wipeE env vs).set v none
def compL (t : Tg) (tt : En → List D → Option (Bool × List D)) (f : En → List D → Option (D × List D)) : List D → En → List D → Option (List D × List D)
  | [], _, S => some ([], S)
  | d :: ds, env, S => (putT t d env).bind fun env1 => (tt env1 S).bind fun b => if b.1 = true then (f env1 b.2).bind fun x => (compL t tt f ds env x.2).map fun r => (x.1 :: r.1, r.2) else compL t tt f ds env b.2
def lComp (it : IM) (t : Tg) (vs : List Nat) (tt : TM) (f : XM) : LM := fun R env S => if vs.all (notOwn env) && t.slots.all (fun i => decide (i ∈ vs)) then (it R env S).bind fun x => if x.1.length ≤ sizeLine then compL t (tt R) (f R) x.1 (wipeE env vs) x.2 else none else none

section
variable {K : PySem.W.Frag} {p : Addr} {B0 : Addr → Prop} {oa oa' : Oa} {env : En} {σ : L2.St} {H H' : Hp} {S S' : List D}
theorem notOwn_oa (f : FI K p B0 oa env σ H S) {i : Nat} (h : notOwn env i = true) : oa i = none := by
  cases e : oa i with
  | none => rfl
  | some a =>
    obtain ⟨_, x, e2, q⟩ := f.ow i a e
    unfold notOwn at h
    rw [e2] at h
    cases q <;> cases h
theorem wipeE_get {i : Nat} {x : SV} : ∀ {vs : List Nat}, (wipeE env vs)[i]? = some (some x) → env[i]? = some (some x) ∧ i ∉ vs
  | [], h => ⟨h, by simp⟩
  | v :: vs, h => by
    unfold wipeE at h
    by_cases hi : i = v
    · subst hi
      obtain ⟨z, _⟩ := get_set_eq h
      cases z
    · rw [get_set_ne hi] at h
      obtain ⟨h1, h2⟩ := wipeE_get h
      exact ⟨h1, by simp only [List.mem_cons, not_or]; exact ⟨hi, h2⟩⟩
theorem wipeE_keep {i : Nat} : ∀ {vs : List Nat}, i ∉ vs → (wipeE env vs)[i]? = env[i]?
  | [], _ => rfl
  | v :: vs, h => by
    unfold wipeE
    have h1 : i ≠ v := fun z => h (z ▸ List.mem_cons_self)
    rw [get_set_ne h1, wipeE_keep fun z => h (List.mem_cons_of_mem _ z)]
theorem wipeE_length : ∀ vs : List Nat, (wipeE env vs).length = env.length
  | [] => rfl
  | v :: vs => by unfold wipeE; rw [List.length_set, wipeE_length vs]
theorem wipe_keep {i : Nat} : ∀ {vs : List Nat}, i ∉ vs → (wipe σ vs)[i]? = σ[i]?
  | [], _ => rfl
  | v :: vs, h => by
    unfold wipe
    have h1 : i ≠ v := fun z => h (z ▸ List.mem_cons_self)
    rw [get_set_ne h1, wipe_keep fun z => h (List.mem_cons_of_mem _ z)]
theorem wipe_twice : ∀ {vs : List Nat}, wipe (wipe σ vs) vs = wipe σ vs := by
  intro vs
  apply List.ext_getElem?
  intro i
  by_cases hi : i ∈ vs
  · have : ∀ (τ : L2.St) (ws : List Nat), i ∈ ws → i < τ.length → (wipe τ ws)[i]? = some none := by
      intro τ ws
      induction ws with
      | nil => intro h _; cases h
      | cons w ws ih =>
        intro h hl
        show ((wipe τ ws).set w none)[i]? = some none
        by_cases hw : i = w
        · subst hw
          rw [List.getElem?_set_self (by rw [wipe_length]; exact hl)]
        · rw [get_set_ne hw]
          exact ih (by rcases List.mem_cons.mp h with z | z; exact absurd z hw; exact z) hl
    by_cases hl : i < σ.length
    · rw [this _ _ hi (by rw [wipe_length]; exact hl), this _ _ hi hl]
    · rw [List.getElem?_eq_none (by rw [wipe_length, wipe_length]; omega), List.getElem?_eq_none (by rw [wipe_length]; omega)]
  · rw [wipe_keep hi]
theorem FI.wipe (f : FI K p B0 oa env σ H S) {vs : List Nat} (h : ∀ i ∈ vs, oa i = none) : FI K p B0 oa (wipeE env vs) (wipe σ vs) H S where
  len := by rw [wipeE_length, wipe_length, f.len]
  sh := fun i d e => by
    obtain ⟨e1, hn⟩ := wipeE_get e
    obtain ⟨v, e2, r⟩ := f.sh i d e1
    exact ⟨v, by rw [wipe_keep hn]; exact e2, r⟩
  ow := fun i a e => by
    have hn : i ∉ vs := fun z => by rw [h i z] at e; cases e
    obtain ⟨e1, x, e2, q⟩ := f.ow i a e
    exact ⟨by rw [wipe_keep hn]; exact e1, x, by rw [wipeE_keep hn]; exact e2, q⟩
  has := fun i x e => f.has i x (wipeE_get e).1
  inj := f.inj
  dis := f.dis
  b0 := f.b0
  pool := f.pool
end

section
variable {X : Cx} {p : Addr} {tg e a b c iter elt : Expr} {pos : Pos}
/-- a comprehension's body over what is walked: the list at the new place -/
theorem comp_run {K : PySem.W.Frag} {t : Tg} {g : TG} {vs : List Nat} {tt : TM} {f : XM} {R : RC} (tk : TgOk K p t g) {σ : L2.St} {H1 : Hp} {Qd : V → Hp → Prop} {B0 : Addr → Prop} {oa : Oa} {env : En} {S : List D} {ds : List D} {J : It}
    (hs : ∀ i ∈ t.slots, i ∈ vs) (ho : ∀ i ∈ vs, oa i = none) (hl : ds.length ≤ sizeLine) {r : List D × List D} (er : compL t (tt R) (f R) ds (wipeE env vs) S = some r) (f1 : FI K p B0 oa env σ H1 S) (jk : JOk K p (Bf B0 p oa) H1 J ds)
    (k : ∀ D vs' H', H1 D = none → FI K p (fun b => B0 b ∨ b = D) oa env σ H' r.2 → Keep p H1 H' → H' D = some (.lst vs') → Reps K p (Bf (fun b => B0 b ∨ b = D) p oa) H' vs' r.1 → Qd (.ref D) H') :
    ∀ D, H1 D = none → ∃ W : Nat → Nat → Hp → Prop, (∃ m, W 0 m (upd H1 D (.lst []))) ∧ ∀ i m H, W i m H →
      (J.stop i H ∧ Qd (.ref D) H) ∨ (J.go i H ∧ ∃ Nx : Hp → Prop, (∀ H', Nx H' → ∃ m', m' < m ∧ W (i + 1) m' H') ∧ ∀ x H', J.yld i H x H' → g x (wipe σ vs) H' fun σ2 H2 => wipe σ2 vs = wipe σ vs ∧ tTI K p (tt R) σ2 H2 fun b H3 =>
        if b = true then tI K p (f R) σ2 H3 fun y H4 => ∃ acc, H4 D = some (.lst acc) ∧ acc.length < sizeLine ∧ Nx (upd H4 D (.lst (acc ++ [y]))) else Nx H3) := by
  intro L hL
  have hLp : L ≠ p := fun z => f1.pool.some (z ▸ hL)
  have f2 : FI K p (fun b => B0 b ∨ b = L) oa env σ (upd H1 L (.lst [])) S := f1.shun hL trivial
  refine ⟨fun i m H' => i + m = ds.length ∧ ∃ acc done S' rest, FI K p (fun b => B0 b ∨ b = L) oa env σ H' S' ∧ Keep p H1 H' ∧ H' L = some (.lst acc) ∧ Reps K p (Bf (fun b => B0 b ∨ b = L) p oa) H' acc done ∧ acc.length ≤ i ∧
    compL t (tt R) (f R) (ds.drop i) (wipeE env vs) S' = some rest ∧ r = (done ++ rest.1, rest.2), ⟨ds.length, by omega, [], [], S, r, f2, Keep.of (same_new hL), upd_same, .nil, Nat.zero_le _, by rw [List.drop_zero]; exact er, rfl⟩, fun i m H' h => ?_⟩
  obtain ⟨hi, acc, done, S', rest, f', k', eL, ra, hacc, er', e'⟩ := h
  have jk' := jk (Bf (fun b => B0 b ∨ b = L) p oa) H' (fun b o nb h => k' b o (fun z => nb (.inr (.inl z))) h) (fun b h => by
    rcases h with (h | h) | h | h
    · exact .inl (.inl h)
    · exact .inr (h ▸ hL)
    · exact .inl (.inr (.inl h))
    · exact .inl (.inr (.inr h))) f'.mut
  by_cases hx : i < ds.length
  · have eg : ds[i]? = some ds[i] := List.getElem?_eq_getElem hx
    rw [List.drop_eq_getElem_cons hx] at er'
    simp only [compL] at er'
    obtain ⟨env1, ee, er'⟩ := Option.bind_eq_some_iff.mp er'
    obtain ⟨bb, eb, er'⟩ := Option.bind_eq_some_iff.mp er'
    obtain ⟨go, yl⟩ := jk'.2 i _ eg
    refine .inr ⟨go, fun H2 => ∃ acc done S' rest, FI K p (fun b => B0 b ∨ b = L) oa env σ H2 S' ∧ Keep p H1 H2 ∧ H2 L = some (.lst acc) ∧ Reps K p (Bf (fun b => B0 b ∨ b = L) p oa) H2 acc done ∧ acc.length ≤ i + 1 ∧
      compL t (tt R) (f R) (ds.drop (i + 1)) (wipeE env vs) S' = some rest ∧ r = (done ++ rest.1, rest.2), fun H2 h2 => ⟨m - 1, by omega, by omega, h2⟩, fun v H2 y => ?_⟩
    obtain ⟨s2, r2⟩ := yl v H2 y
    have fo2 := f'.same s2
    have fw2 := fo2.wipe ho
    refine tk _ oa (wipeE env vs) (wipe σ vs) H2 S' v _ env1 _ fw2 r2 ee fun σ3 oa3 f3 m3 w3 o3 => ?_
    have own3 : ∀ b, Own oa b → Own oa3 b := fun b h => by
      rcases o3 b h with z | ⟨j, hj, z⟩
      · exact z
      · rw [ho j (hs j hj)] at z
        cases z
    have bf3 : ∀ b, Bf (fun b => B0 b ∨ b = L) p oa b → Bf (fun b => B0 b ∨ b = L) p oa3 b := fun b h => by
      rcases h with h | h | h
      · exact .inl h
      · exact .inr (.inl h)
      · exact .inr (.inr (own3 b h))
    refine ⟨by rw [w3 vs hs, wipe_twice], env1, S', _, oa3, f3, bb, eb, fun H3 f4 k4 => ?_⟩
    have back : ∀ {H5 : Hp} {S5 : List D}, Keep p H2 H5 → FI K p (fun b => B0 b ∨ b = L) oa3 env1 σ3 H5 S5 → FI K p (fun b => B0 b ∨ b = L) oa env σ H5 S5 := fun {H5 S5} k5 f5 => by
      obtain ⟨us, e5, r5⟩ := f5.pool
      exact fo2.keep k5 ⟨us, e5, r5.less bf3⟩
    have k2 : Keep p H1 H2 := k'.trans (Keep.of s2)
    have ra2 := ra.same s2
    by_cases hb : bb.1 = true
    · rw [if_pos hb] at er'
      dsimp only
      rw [if_pos hb]
      obtain ⟨x, ex, er'⟩ := Option.bind_eq_some_iff.mp er'
      obtain ⟨rest2, er2, er'⟩ := Option.map_eq_some_iff.mp er'
      subst er'
      refine ⟨env1, _, _, oa3, f4, x, ex, fun w H4 f5 k5 r5 => ?_⟩
      have k24 : Keep p H2 H4 := k4.trans k5
      have eL4 : H4 L = some (.lst acc) := k24 L _ hLp (s2 L _ eL)
      have f6 := back k24 f5
      have ra4 := ra2.keep fo2 k24
      have ho' : ∀ j, oa j ≠ some L := fun j z => (f6.dis j L z).1 (.inr rfl)
      have f7 : FI K p (fun b => B0 b ∨ b = L) oa env σ (upd H4 L (.lst (acc ++ [w]))) x.2 := f6.wrote hLp trivial ho'
      have ks : ∀ b u, ¬ Bf (fun b => B0 b ∨ b = L) p oa b → H4 b = some u → upd H4 L (.lst (acc ++ [w])) b = some u := fun b u nb q => by
        rw [upd_ne fun z => nb (.inl (.inr z))]
        exact q
      refine ⟨acc, eL4, by omega, acc ++ [w], done ++ [x.1], x.2, rest2, f7, fun b o nb q => ?_, upd_same, ?_, by rw [List.length_append, List.length_singleton]; omega, er2, ?_⟩
      · rw [upd_ne (ne_of_none q hL)]
        exact (k2.trans k24) b o nb q
      · exact (ra4.append (Reps.one (r5.less bf3))).move ks (fun _ q => .inl q) f6.mut
      · rw [e', List.append_assoc]
        rfl
    · rw [if_neg hb] at er'
      dsimp only
      rw [if_neg hb]
      refine ⟨acc, done, _, rest, back k4 f4, k2.trans k4, k4 L _ hLp (s2 L _ eL), ra2.keep fo2 k4, by omega, er', e'⟩
  · have hl' : i = ds.length := by omega
    subst hl'
    rw [List.drop_length] at er'
    simp only [compL] at er'
    cases er'
    refine .inl ⟨jk'.1, k L acc H' hL ?_ k' eL ?_⟩
    · rw [e']
      exact f'
    · rw [e']
      simpa using ra
theorem comp_tLc {K : PySem.W.Frag} {it : IM} {t : Tg} {g : TG} {vs : List Nat} {tt : TM} {f : XM} {R : RC} (tk : TgOk K p t g) {σ : L2.St} {H : Hp} {Q : VK} (q : tLI K p (lComp it t vs tt f R) σ H Q) :
    tLc (tII K p (it R)) g (tTI K p (tt R)) (tI K p (f R)) vs σ H Q := by
  obtain ⟨env, S, B0, oa, f0, w, e1, k⟩ := q
  unfold lComp at e1
  split at e1
  · rename_i hg
    obtain ⟨g1, g2⟩ := Bool.and_eq_true_iff.mp hg
    obtain ⟨x, ex, e1⟩ := Option.bind_eq_some_iff.mp e1
    split at e1
    · rename_i hl
      refine ⟨env, S, B0, oa, f0, x, ex, fun J H1 f1 k1 jk => ?_⟩
      refine comp_run tk (fun i hi => of_decide_eq_true (List.all_eq_true.mp g2 i hi)) (fun i hi => notOwn_oa f1 (List.all_eq_true.mp g1 i hi)) hl e1 f1 jk fun L vs' H' hL f' k' eL r' => ?_
      refine k L vs' H' f' (k1.trans k') ?_ eL r'
      cases hq : H L with
      | none => rfl
      | some o =>
        by_cases hp : L = p
        · subst hp
          exact absurd hL f1.pool.some
        · rw [k1 L o hp hq] at hL
          cases hL
    · cases e1
  · cases e1
theorem il_comp {it : IM} {t : Tg} {g : TG} {tt : TM} {f : XM} {R : RC} {ifs : List Expr} {scope : Scope} {own : List (Str × Nat)} (tk : TgOk X.K p t g) (hc : X.calm = true) (hN : X.N.Nodup) (hi : PI X tg iter (tII X.K p (it R))) (ok : BlkOk X.N X.env.scope scope own)
    (hg : ∀ (s : Shared) (H : Hp) (C : Addr) (cl : List (Str × Addr)) (fp : List Addr), PG (X.blk s H scope (compEnvC scope cl C X.env) fp) tg g) (ht : ∀ (s : Shared) (H : Hp) (C : Addr) (cl : List (Str × Addr)) (fp : List Addr), PTs (X.blk s H scope (compEnvC scope cl C X.env) fp) ifs (tTI X.K p (tt R)))
    (he : ∀ (s : Shared) (H : Hp) (C : Addr) (cl : List (Str × Addr)) (fp : List Addr), PE (X.blk s H scope (compEnvC scope cl C X.env) fp) elt (tI X.K p (f R))) (hs : ∀ x, foldedSetIterable iter X.env x = pure x) :
    PE X (.ListComp elt [⟨tg, iter, ifs, 0⟩] scope pos) (tLI X.K p (lComp it t (own.map (·.2)) tt f R)) := (pe_lc hc hN hi ok hg ht he hs).imp fun σ H Q q => comp_tLc tk q
def mYes : TM := fun _ _ S => some (true, S)
theorem its_nil {R : RC} : PTs X [] (tTI X.K p (mYes R)) := ⟨fun pins s σ H Q I h => pts_nil.run pins s σ H Q I (by
  obtain ⟨env, S, B0, oa, f0, w, e1, k⟩ := h
  cases e1
  exact k H f0 (Keep.refl p H))⟩
theorem its_one {f : TM} {R : RC} (h : PT X c (tTI X.K p (f R))) : PTs X [c] (tTI X.K p (f R)) := pts_one h

/-! ### lists and dicts of the frame's own -/
inductive VOk (K : PySem.W.Frag) (p : Addr) (B0 : Addr → Prop) (oa : Oa) (env : En) (σ : L2.St) (H H' : Hp) (S' : List D) : SV → V → Prop
  | sh {v : V} {d : D} : FI K p B0 oa env σ H' S' → Keep p H H' → Rep K p (Bf B0 p oa) H' v d → VOk K p B0 oa env σ H H' S' (.sh d) v
  | own {a : Addr} {x : SV} : FI K p (fun b => B0 b ∨ b = a) oa env σ H' S' → Keep p H H' → H a = none → OwnAt K p (Bf (fun b => B0 b ∨ b = a) p oa) H' a x → ¬ B0 a → a ≠ p → (∀ j, oa j ≠ some a) → (∀ d, x ≠ .sh d) → VOk K p B0 oa env σ H H' S' x (.ref a)
theorem VOk.put {K : PySem.W.Frag} {B0 : Addr → Prop} {oa : Oa} {env : En} {σ : L2.St} {H H' : Hp} {S' : List D} {x : SV} {v : V} (h : VOk K p B0 oa env σ H H' S' x v) {i : Nat} (hi : i < env.length) :
    ∃ oa', FI K p B0 oa' (env.set i (some x)) (σ.set i (some v)) H' S' ∧ Mv p oa oa' H H' := by
  cases h with
  | sh f k r => exact ⟨_, f.set i r, (k.mv f.pool.some).trans (Mv.drop i)⟩
  | @own a _ f k ha q nb np no nx =>
    refine ⟨_, f.setOwn i hi np nb no nx q, ⟨fun b o n _ h => k b o n h, fun z => absurd z f.pool.some, fun b h => ?_⟩⟩
    rcases own_put h with z | z
    · exact .inl z
    · exact .inr (z ▸ ha)
/-- a value's reading: data, or a new list or dict for a slot -/
def tVI (K : PySem.W.Frag) (p : Addr) (f : En → List D → Option (SV × List D)) : TE := fun σ H Q => ∃ env S B0 oa, FI K p B0 oa env σ H S ∧ ∃ r, f env S = some r ∧ ∀ v H', VOk K p B0 oa env σ H H' r.2 r.1 v → Q v H'
def vSh (f : XM) : RM := fun R env S => (f R env S).map fun x => (.sh x.1, x.2)
def vOwn (f : LM) : RM := fun R env S => (f R env S).map fun x => (.own x.1, x.2)
theorem iv_sh {f : XM} {R : RC} (h : PE X e (tI X.K p (f R))) : PE X e (tVI X.K p (vSh f R)) := h.imp fun σ H Q q => by
  obtain ⟨env, S, B0, oa, f0, w, e1, k⟩ := q
  unfold vSh at e1
  obtain ⟨x, ex, e1⟩ := Option.map_eq_some_iff.mp e1
  subst e1
  exact ⟨env, S, B0, oa, f0, x, ex, fun v H' f1 k1 r1 => k v H' (.sh f1 k1 r1)⟩
theorem iv_own {f : LM} {R : RC} (h : PE X e (tLI X.K p (f R))) : PE X e (tVI X.K p (vOwn f R)) := h.imp fun σ H Q q => by
  obtain ⟨env, S, B0, oa, f0, w, e1, k⟩ := q
  unfold vOwn at e1
  obtain ⟨x, ex, e1⟩ := Option.map_eq_some_iff.mp e1
  subst e1
  refine ⟨env, S, B0, oa, f0, x, ex, fun a vs H' f1 k1 ha hv r1 => k _ H' ?_⟩
  have nb := f0.new ha
  exact .own f1 k1 ha (.own hv r1) (fun z => nb (.inl z)) (fun z => nb (.inr (.inl z))) (fun j z => nb (.inr (.inr ⟨j, z⟩))) fun d z => nomatch z
def sPut (i : Nat) (f : RM) : SM := fun R env S => (f R env S).bind fun x => if i < env.length then some (.nx, env.set i (some x.1), x.2) else none
theorem put_I {i : Nat} {f : RM} {R : RC} {K : PySem.W.Frag} {Dn : Ends} {σ : L2.St} {H : Hp} (q : tIS K p (sPut i f R) Dn σ H) : tAsg (tVI K p (f R)) (gName i) Dn σ H := by
  obtain ⟨env, S, B0, oa, f0, w, e1, k⟩ := q
  unfold sPut at e1
  obtain ⟨x, ex, e1⟩ := Option.bind_eq_some_iff.mp e1
  split at e1
  · rename_i hi
    cases e1
    refine ⟨env, S, B0, oa, f0, x, ex, fun v H1 h1 => ?_⟩
    obtain ⟨oa', f1, m1⟩ := h1.put hi
    exact k _ H1 oa' f1 m1
  · cases e1
theorem is_put {i : Nat} {x : Str} {f : RM} {R : RC} {pos' : Pos} (hN : X.N.Nodup) (hi : X.N[i]? = some x) (hx : Loc X.env.scope x) (h : PE X e (tVI X.K p (f R))) (hs : swapsWith e (some (.Name x pos')) pos.line X.env = pure false) (hf : X.fn x = true ∨ X.env.scope.names.lookup x = some .local) :
    PS X (.Assign [.Name x pos'] e pos) (tIS X.K p (sPut i f R)) := (ps_set hN hi hx h hs hf).imp fun Dn σ H q => put_I q
/-- name = [..] on one line, the name a local -/
theorem is_putC {i : Nat} {y : Str} {py : Pos} {it : IM} {t : Tg} {g : TG} {tt : TM} {f : XM} {F : RM} {R : RC} {ifs : List Expr} {scope : Scope} {own : List (Str × Nat)} {spos : Pos} (tk : TgOk X.K p t g) (hc : X.calm = true) (hN : X.N.Nodup) (hy : X.N[i]? = some y) (hyl : X.env.scope.names.lookup y = some .local)
    (hsw : swapsWith (.ListComp elt [⟨tg, iter, ifs, 0⟩] scope pos) (some (.Name y py)) spos.line X.env = pure true) (hi : PI X tg iter (tII X.K p (it R))) (ok : BlkOk X.N X.env.scope scope own)
    (hg : ∀ (s : Shared) (H : Hp) (C : Addr) (cl : List (Str × Addr)) (fp : List Addr), PG (X.blk s H scope (compEnvC scope cl C X.env) fp) tg g) (ht : ∀ (s : Shared) (H : Hp) (C : Addr) (cl : List (Str × Addr)) (fp : List Addr), PTs (X.blk s H scope (compEnvC scope cl C X.env) fp) ifs (tTI X.K p (tt R)))
    (he : ∀ (s : Shared) (H : Hp) (C : Addr) (cl : List (Str × Addr)) (fp : List Addr), PE (X.blk s H scope (compEnvC scope cl C X.env) fp) elt (tI X.K p (f R))) (hs : ∀ x, foldedSetIterable iter X.env x = pure x)
    (hF : ∀ σ H Q, tVI X.K p (F R) σ H Q → tLI X.K p (lComp it t (own.map (·.2)) tt f R) σ H Q) :
    PS X (.Assign [.Name y py] (.ListComp elt [⟨tg, iter, ifs, 0⟩] scope pos) spos) (tIS X.K p (sPut i F R)) := (ps_setLc hc hN hy hyl hsw hi ok hg ht he hs).imp fun Dn σ H q => by
  have z := put_I q
  exact comp_tLc tk (hF σ H _ z)
theorem vown_tLI {K : PySem.W.Frag} {f : LM} {R : RC} {σ : L2.St} {H : Hp} {Q : VK} (q : tVI K p (vOwn f R) σ H Q) : tLI K p (f R) σ H Q := by
  obtain ⟨env, S, B0, oa, f0, w, e1, k⟩ := q
  unfold vOwn at e1
  obtain ⟨x, ex, e1⟩ := Option.map_eq_some_iff.mp e1
  subst e1
  refine ⟨env, S, B0, oa, f0, x, ex, fun a vs H' f1 k1 ha hv r1 => k _ H' ?_⟩
  have nb := f0.new ha
  exact .own f1 k1 ha (.own hv r1) (fun z => nb (.inl z)) (fun z => nb (.inr (.inl z))) (fun j z => nb (.inr (.inr ⟨j, z⟩))) fun d z => nomatch z
theorem vsh_tI {K : PySem.W.Frag} {f : XM} {R : RC} {σ : L2.St} {H : Hp} {Q : VK} (q : tVI K p (vSh f R) σ H Q) : tI K p (f R) σ H Q := by
  obtain ⟨env, S, B0, oa, f0, w, e1, k⟩ := q
  unfold vSh at e1
  obtain ⟨x, ex, e1⟩ := Option.map_eq_some_iff.mp e1
  subst e1
  exact ⟨env, S, B0, oa, f0, x, ex, fun v H' f1 k1 r1 => k v H' (.sh f1 k1 r1)⟩

/-! ### two or three names at once: a, b = e1, e2 -/
end
end Ip

set_option maxHeartbeats 1000000
/-! IpE: operations on values. -/
namespace Ip
open PySem L2

section
variable {K : PySem.W.Frag} {p : Addr} {B : Addr → Prop} {H H' : Hp}
theorem Rep.isInt {v : V} {i : Int} (h : Rep K p B H v (.int i)) : v = .int i := by cases h; rfl
theorem Rep.isStr {v : V} {x : Str} (h : Rep K p B H v (.str x)) : v = .str x := by cases h; rfl
theorem Rep.isNon {v : V} (h : Rep K p B H v .non) : v = .non := by cases h; rfl
theorem Rep.isTy {v : V} {n : String} (h : Rep K p B H v (.ty n)) : v = .ty n := by cases h; rfl
theorem Reps.one_inv {vs : List V} {d : D} (h : Reps K p B H vs [d]) : ∃ v, vs = [v] ∧ Rep K p B H v d := by
  cases h with
  | cons r t => cases t; exact ⟨_, rfl, r⟩
theorem Reps.two_inv {vs : List V} {d e : D} (h : Reps K p B H vs [d, e]) : ∃ v w, vs = [v, w] ∧ Rep K p B H v d ∧ Rep K p B H w e := by
  cases h with
  | cons r t =>
    obtain ⟨w, rfl, q⟩ := t.one_inv
    exact ⟨_, _, rfl, r, q⟩
end

theorem OpR.or {X : Cx} {f : Value → Value → Sem Value} {r r' : R2} (h : OpR X f r) (h' : OpR X f r') : OpR X f (fun x y H Q => r x y H Q ∨ r' x y H Q) := fun pins s σ H x y v u Q I rx ry q => by
  rcases q with q | q
  · exact h pins s σ H x y v u Q I rx ry q
  · exact h' pins s σ H x y v u Q I rx ry q
theorem CallR.or {X : Cx} {f : Value} {r r' : List V → Hp → VK → Prop} (h : CallR X f r) (h' : CallR X f r') : CallR X f (fun xs H Q => r xs H Q ∨ r' xs H Q) := fun pins s σ H xs us Q I rx q => by
  rcases q with q | q
  · exact h pins s σ H xs us Q I rx q
  · exact h' pins s σ H xs us Q I rx q

/-! ### + -/
section
variable {X : Cx}
/-- t + u of tuples, every case -/
def rCatX (K : PySem.W.Frag) : R2 := fun x y H Q => ∃ a b xs ys, x = .ref a ∧ y = .ref b ∧ SqT K H a xs ∧ SqT K H b ys ∧ xs.length + ys.length ≤ sizeLine ∧
  (xs = [] → Q (.ref b) H) ∧ (ys = [] → Q (.ref a) H) ∧ ∀ (q : Addr) (o : Obj), o.dict = none → H q = none → Q (.ref q) (upd H q (.frz o (.tup (xs ++ ys))))
theorem op_catX : OpR X (binaryOp .Add) (rCatX X.K) := by
  intro pins s σ H x y v u Q I rx ry h
  obtain ⟨a, b, xs, ys, rfl, rfl, ha, hb, hz, q0, q1, q2⟩ := h
  cases rx
  cases ry
  obtain ⟨its, r1, p1, _⟩ := I.tuple ha
  obtain ⟨its2, r2, p2, _⟩ := I.tuple hb
  by_cases hx : xs = []
  · have hi : its = [] := r1.nil_iff.mpr hx
    subst hi
    exact cat_tup0 p1 p2 ⟨.ref b, H, I, rfl, q0 hx⟩
  · refine HT.cat_tup p1 p2 (fun z => hx (r1.nil_iff.mp z)) (fun z => ⟨.ref a, H, I, rfl, q1 (r2.nil_iff.mp z)⟩) (fun _ => ?_) (by rw [← r1.length, ← r2.length]; exact hz)
    refine ⟨.ref s.heap.objs.size, upd H s.heap.objs.size (.frz { cls := .type "tuple", data := .seq (its ++ its2).toArray } (.tup (xs ++ ys))), I.laid (t' := s.toks) (fun _ _ z => Heap.get?_push_of_some _ z) (Nat.le_refl _) ?_, rfl, q2 _ _ rfl (I.hok.fresh (Nat.le_refl _))⟩
    exact ⟨Heap.get?_push_size _ rfl, by rw [List.length_append]; exact hz, _, r1.append r2, PyProof.Rows.IsTup.new _ _⟩
def rAddX (K : PySem.W.Frag) : R2 := fun x y H Q => (rI0 fun i j => .int (i + j)) x y H Q ∨ (∃ i j, x = .str i ∧ y = .str j ∧ i.length + j.length ≤ sizeLine ∧ Q (.str (i ++ j)) H) ∨ rCat x y H Q ∨ rCatX K x y H Q
theorem op_addX : OpR X (binaryOp .Add) (rAddX X.K) := op_add.or (op_add_str.or (op_cat.or op_catX))
end
def addD : D → D → Option D
  | .int i, .int j => some (.int (i + j))
  | .str x, .str y => if x.length + y.length ≤ sizeLine then some (.str (x ++ y)) else none
  | .lst xs, .lst ys => if xs.length + ys.length ≤ sizeLine then some (.lst (xs ++ ys)) else none
  | .tup xs, .tup ys => if xs.length + ys.length ≤ sizeLine then some (.tup (xs ++ ys)) else none
  | _, _ => none
section
variable {K : PySem.W.Frag} {p : Addr}
theorem Reps.nil_iff {B : Addr → Prop} {H : Hp} {vs : List V} {ds : List D} (r : Reps K p B H vs ds) : vs = [] ↔ ds = [] := by
  cases r with
  | nil => exact ⟨fun _ => rfl, fun _ => rfl⟩
  | cons _ _ => exact ⟨(fun h => nomatch h), (fun h => nomatch h)⟩
theorem vr_add : VR2 K p (rAddX K) addD := fun B H x y d1 d2 d Q hm r1 r2 e k => by
  cases r1 <;> cases r2 <;> simp only [addD] at e <;> first
    | cases e; done
    | skip
  · cases e
    exact .inl ⟨_, _, rfl, rfl, k _ H (Same.refl H) (.int _)⟩
  · split at e
    · rename_i h
      cases e
      exact .inr (.inl ⟨_, _, rfl, rfl, h, k _ H (Same.refl H) (.str _)⟩)
    · cases e
  · rename_i h1 q1 _ _ _ h2 q2
    split at e
    · rename_i h
      cases e
      refine .inr (.inr (.inr ⟨_, _, _, _, rfl, rfl, h1.t, h2.t, by rw [q1.length, q2.length]; exact h, fun z => ?_, fun z => ?_, fun a o ho ha => ?_⟩))
      · have z' := q1.nil_iff.mp z
        subst z'
        exact k _ H (Same.refl H) (.tup h2 q2)
      · have z' := q2.nil_iff.mp z
        subst z'
        rw [List.append_nil] at k
        exact k _ H (Same.refl H) (.tup h1 q1)
      · exact k _ _ (same_new ha) ((q1.append q2).tup ha ho)
    · cases e
  · rename_i h1 _ q1 _ _ _ h2 _ q2
    split at e
    · rename_i h
      cases e
      refine .inr (.inr (.inl ⟨_, _, _, _, rfl, rfl, h1, h2, by rw [q1.length, q2.length]; exact h, fun a ha => ?_⟩))
      exact k _ _ (same_new ha) ((q1.append q2).lst hm ha)
    · cases e

/-! ### numbers -/
def intD (g : Int → Int → Option Int) : D → D → Option D
  | .int i, .int j => (g i j).map .int
  | _, _ => none
theorem vr_int {C : Int → Int → Prop} {g : Int → Int → Int} {g' : Int → Int → Option Int} (hg : ∀ i j k, g' i j = some k → C i j ∧ k = g i j) : VR2 K p (rI C fun i j => .int (g i j)) (intD g') := fun B H x y d1 d2 d Q hm r1 r2 e k => by
  cases r1 <;> cases r2 <;> simp only [intD] at e <;> first
    | cases e; done
    | skip
  obtain ⟨z, ez, e⟩ := Option.map_eq_some_iff.mp e
  subst e
  obtain ⟨hc, rfl⟩ := hg _ _ _ ez
  exact ⟨_, _, rfl, rfl, hc, k _ H (Same.refl H) (.int _)⟩
theorem vr_int0 {g : Int → Int → Int} : VR2 K p (rI0 fun i j => .int (g i j)) (intD fun i j => some (g i j)) := fun B H x y d1 d2 d Q hm r1 r2 e k => by
  cases r1 <;> cases r2 <;> simp only [intD] at e <;> first
    | cases e; done
    | skip
  cases e
  exact ⟨_, _, rfl, rfl, k _ H (Same.refl H) (.int _)⟩
def subD : D → D → Option D := intD fun i j => some (i - j)
def mulI (i j : Int) : Option Int := if (-(2 ^ 64) < i ∧ i < 2 ^ 64) ∨ (-(2 ^ 64) < j ∧ j < 2 ^ 64) then some (i * j) else none
def modI (i j : Int) : Option Int := if j ≠ 0 then some (i.fmod j) else none
def divI (i j : Int) : Option Int := if j ≠ 0 ∧ j.natAbs < 1073741824 then some (i.fdiv j) else none
theorem mulI_ok (i j k : Int) (h : mulI i j = some k) : CMul i j ∧ k = i * j := by
  unfold mulI at h
  split at h
  · rename_i c
    cases h
    exact ⟨c, rfl⟩
  · cases h
theorem modI_ok (i j k : Int) (h : modI i j = some k) : j ≠ 0 ∧ k = i.fmod j := by
  unfold modI at h
  split at h
  · rename_i c
    cases h
    exact ⟨c, rfl⟩
  · cases h
theorem divI_ok (i j k : Int) (h : divI i j = some k) : CDivN i j ∧ k = i.fdiv j := by
  unfold divI at h
  split at h
  · rename_i c
    cases h
    exact ⟨c, rfl⟩
  · cases h
def mulD : D → D → Option D := intD mulI
def modD : D → D → Option D := intD modI
def divD : D → D → Option D := intD divI
def negD : D → Option D
  | .int i => some (.int (-i))
  | _ => none
theorem vr_neg : VR1 K p (rU fun i => .int (-i)) negD := fun B H x d1 d Q hm r1 e k => by
  cases r1 <;> simp only [negD] at e <;> first
    | cases e; done
    | skip
  cases e
  exact ⟨_, rfl, k _ H (Same.refl H) (.int _)⟩
end
/-! ### order -/
def ordD (g : Int → Int → Bool) (gs : List Nat → List Nat → Bool) : D → D → Option D
  | .int i, .int j => some (.bl (g i j))
  | .str x, .str y => some (.bl (gs x.cps.toList y.cps.toList))
  | _, _ => none
def rOrd (g : Int → Int → Bool) (gs : List Nat → List Nat → Bool) : R2 := fun x y H Q => (rI0 fun i j => .bl (g i j)) x y H Q ∨ ∃ i j, x = .str i ∧ y = .str j ∧ Q (.bl (gs i.cps.toList j.cps.toList)) H
theorem vr_ord {K : PySem.W.Frag} {p : Addr} {g : Int → Int → Bool} {gs : List Nat → List Nat → Bool} : VR2 K p (rOrd g gs) (ordD g gs) := fun B H x y d1 d2 d Q hm r1 r2 e k => by
  cases r1 <;> cases r2 <;> simp only [ordD] at e <;> first
    | cases e; done
    | skip
  · cases e
    exact .inl ⟨_, _, rfl, rfl, k _ H (Same.refl H) (.bl _)⟩
  · cases e
    exact .inr ⟨_, _, rfl, rfl, k _ H (Same.refl H) (.bl _)⟩
def ltD : D → D → Option D := ordD (fun i j => decide (i < j)) fun x y => decide (x < y)
def leD : D → D → Option D := ordD (fun i j => decide (i ≤ j)) fun x y => !decide (y < x)
def gtD : D → D → Option D := ordD (fun i j => decide (j < i)) fun x y => decide (y < x)
def geD : D → D → Option D := ordD (fun i j => decide (j ≤ i)) fun x y => !decide (x < y)
/-! ### == -/
mutual
def toPy : D → Option PyData
  | .non => some .none
  | .bl b => some (.bool b)
  | .int i => some (.int i)
  | .str x => some (.str x)
  | .tup xs => (toPys xs).map .tuple
  | .lst xs => (toPys xs).map .list
  | _ => none
def toPys : List D → Option (List PyData)
  | [] => some []
  | d :: ds => (toPy d).bind fun a => (toPys ds).map fun as => a :: as
end
/-- scalars of one kind, None beside any scalar -/
def scalD : D → D → Option Bool
  | .int i, .int j => some (decide (i = j))
  | .str x, .str y => some (decide (x = y))
  | .bl a, .bl b => some (decide (a = b))
  | .non, .non => some true
  | .non, .int _ => some false
  | .int _, .non => some false
  | .non, .bl _ => some false
  | .bl _, .non => some false
  | .non, .str _ => some false
  | .str _, .non => some false
  | .int _, .str _ => some false
  | .str _, .int _ => some false
  | .bl _, .str _ => some false
  | .str _, .bl _ => some false
  | _, _ => none
def dataEq (d e : D) : Option Bool := (toPy d).bind fun a => (toPy e).bind fun b => if SeqAt.shaped a && SeqAt.shaped b then some (PyData.eqv a b) else none
def eqB (d e : D) : Option Bool := match scalD d e with
  | some b => some b
  | none => dataEq d e
def eqD (d e : D) : Option D := (eqB d e).map .bl
def neD (d e : D) : Option D := (eqB d e).map fun b => .bl (!b)
section
variable {K : PySem.W.Frag} {p : Addr} {B : Addr → Prop} {H : Hp}
mutual
theorem Rep.dp : ∀ (d : D) (v : V) (a : PyData), Rep K p B H v d → toPy d = some a → Dp K H v a
  | .non, _, _, r, e => by cases r; cases e; exact .non
  | .bl b, _, _, r, e => by cases r; cases e; exact .bl b
  | .int b, _, _, r, e => by cases r; cases e; exact .int b
  | .str b, _, _, r, e => by cases r; cases e; exact .str b
  | .tup ds, _, _, r, e => by
    cases r with
    | tup h q =>
      simp only [toPy] at e
      obtain ⟨as, ea, rfl⟩ := Option.map_eq_some_iff.mp e
      exact .tup h.t (Reps.dp ds _ as q ea)
  | .lst ds, _, _, r, e => by
    cases r with
    | lst h nb q =>
      simp only [toPy] at e
      obtain ⟨as, ea, rfl⟩ := Option.map_eq_some_iff.mp e
      exact .lst (.inl (.inl h)) (Reps.dp ds _ as q ea)
  | .dic _ _, _, _, _, e => by simp [toPy] at e
  | .ins _ _ _, _, _, _, e => by simp [toPy] at e
  | .rng _ _, _, _, _, e => by simp [toPy] at e
  | .ty _, _, _, _, e => by simp [toPy] at e
  | .pool, _, _, _, e => by simp [toPy] at e
theorem Reps.dp : ∀ (ds : List D) (vs : List V) (as : List PyData), Reps K p B H vs ds → toPys ds = some as → DpAll K H vs as
  | [], _, _, r, e => by cases r; cases e; exact .nil
  | d :: ds, _, _, r, e => by
    cases r with
    | cons r1 r2 =>
      simp only [toPys] at e
      obtain ⟨a, ea, e⟩ := Option.bind_eq_some_iff.mp e
      obtain ⟨as, eas, rfl⟩ := Option.map_eq_some_iff.mp e
      exact .cons (Rep.dp d _ a r1 ea) (Reps.dp ds _ as r2 eas)
end
theorem scal_rep {d e : D} {x y : V} {b : Bool} (r1 : Rep K p B H x d) (r2 : Rep K p B H y e) (h : scalD d e = some b) : scal x y = true ∧ decide (x = y) = b := by
  cases r1 <;> cases r2 <;> simp only [scalD] at h <;> first
    | cases h; done
    | (cases h; refine ⟨rfl, ?_⟩; simp)
def rEqX (K : PySem.W.Frag) : R2 := fun x y H Q => rEq x y H Q ∨ rEqD K x y H Q
def rNeX (K : PySem.W.Frag) : R2 := fun x y H Q => rNe x y H Q ∨ rNeD K x y H Q
theorem vr_eq : VR2 K p (rEqX K) eqD := fun B H x y d1 d2 d Q hm r1 r2 e k => by
  unfold eqD at e
  obtain ⟨b, eb, rfl⟩ := Option.map_eq_some_iff.mp e
  unfold eqB at eb
  split at eb
  · rename_i b' hs
    cases eb
    obtain ⟨h1, h2⟩ := scal_rep r1 r2 hs
    exact .inl ⟨h1, by rw [h2]; exact k _ H (Same.refl H) (.bl _)⟩
  · unfold dataEq at eb
    obtain ⟨a, ea, eb⟩ := Option.bind_eq_some_iff.mp eb
    obtain ⟨c, ec, eb⟩ := Option.bind_eq_some_iff.mp eb
    split at eb
    · rename_i hs
      cases eb
      obtain ⟨s1, s2⟩ := Bool.and_eq_true_iff.mp hs
      exact .inr ⟨a, c, r1.dp _ _ _ ea, r2.dp _ _ _ ec, s1, s2, k _ H (Same.refl H) (.bl _)⟩
    · cases eb
theorem vr_ne : VR2 K p (rNeX K) neD := fun B H x y d1 d2 d Q hm r1 r2 e k => by
  unfold neD at e
  obtain ⟨b, eb, rfl⟩ := Option.map_eq_some_iff.mp e
  unfold eqB at eb
  split at eb
  · rename_i b' hs
    cases eb
    obtain ⟨h1, h2⟩ := scal_rep r1 r2 hs
    exact .inl ⟨h1, by rw [h2]; exact k _ H (Same.refl H) (.bl _)⟩
  · unfold dataEq at eb
    obtain ⟨a, ea, eb⟩ := Option.bind_eq_some_iff.mp eb
    obtain ⟨c, ec, eb⟩ := Option.bind_eq_some_iff.mp eb
    split at eb
    · rename_i hs
      cases eb
      obtain ⟨s1, s2⟩ := Bool.and_eq_true_iff.mp hs
      exact .inr ⟨a, c, r1.dp _ _ _ ea, r2.dp _ _ _ ec, s1, s2, k _ H (Same.refl H) (.bl _)⟩
    · cases eb
/-! ### is None -/
def isND : D → D → Option D
  | .non, .non => some (.bl true)
  | _, .non => some (.bl false)
  | _, _ => none
def isNND : D → D → Option D
  | .non, .non => some (.bl false)
  | _, .non => some (.bl true)
  | _, _ => none
theorem vr_isN : VR2 K p (fun x y H Q => y = .non ∧ Q (.bl (decide (x = .non))) H) isND := fun B H x y d1 d2 d Q hm r1 r2 e k => by
  cases r2 <;> cases r1 <;> simp only [isND] at e <;> first
    | cases e; done
    | (cases e; exact ⟨rfl, k _ H (Same.refl H) (.bl _)⟩)
theorem vr_isNN : VR2 K p (fun x y H Q => y = .non ∧ Q (.bl (!decide (x = .non))) H) isNND := fun B H x y d1 d2 d Q hm r1 r2 e k => by
  cases r2 <;> cases r1 <;> simp only [isNND] at e <;> first
    | cases e; done
    | (cases e; exact ⟨rfl, k _ H (Same.refl H) (.bl _)⟩)
/-! ### in -/
def flatD : D → Bool
  | .non => true
  | .bl _ => true
  | .int _ => true
  | .str _ => true
  | _ => false
def eqF : D → D → Bool
  | .non, .non => true
  | .bl a, .bl b => a == b
  | .bl a, .int b => (if a then 1 else 0) == b
  | .int a, .bl b => a == (if b then 1 else 0)
  | .int a, .int b => a == b
  | .str a, .str b => a == b
  | _, _ => false
theorem flat_rep {d : D} {v : V} (r : Rep K p B H v d) : flatV v = flatD d := by cases r <;> rfl
theorem flats_rep : ∀ {ds : List D} {vs : List V}, Reps K p B H vs ds → vs.all flatV = ds.all flatD
  | _, _, .nil => rfl
  | _, _, .cons r t => by rw [List.all_cons, List.all_cons, flat_rep r, flats_rep t]
theorem eqF_rep {d e : D} {x y : V} (r : Rep K p B H x d) (q : Rep K p B H y e) : eqV x y = eqF d e := by cases r <;> cases q <;> rfl
theorem inF_rep {d : D} {x : V} (r : Rep K p B H x d) : ∀ {ds : List D} {vs : List V}, Reps K p B H vs ds → inV x vs = ds.any fun y => eqF y d
  | _, _, .nil => rfl
  | _, _, .cons q t => by
    have ih := inF_rep r t
    unfold inV at ih ⊢
    rw [List.any_cons, List.any_cons, eqF_rep q r, ih]
def lookK : List Key → List D → Key → Option D
  | k :: ks, d :: ds, k' => if k = k' then some d else lookK ks ds k'
  | _, _, _ => none
def keyD : D → Option Key
  | .int i => some (.inl i)
  | .str x => some (.inr x)
  | _ => none
theorem key_rep {d : D} {v : V} {k : Key} (r : Rep K p B H v d) (h : keyD d = some k) : v = kV k := by
  cases r <;> simp only [keyD] at h <;> first
    | cases h; done
    | (cases h; rfl)
theorem dk_look {K : PySem.W.Frag} {p : Addr} {B : Addr → Prop} {H : Hp} {k : Key} : ∀ {kvs : List (Key × V)} {ds : List D}, Reps K p B H (kvs.map (·.2)) ds →
    (∀ d, lookK (kvs.map (·.1)) ds k = some d → ∃ v, valV kvs k = some v ∧ Rep K p B H v d) ∧ (lookK (kvs.map (·.1)) ds k).isSome = (valV kvs k).isSome
  | [], _, _ => ⟨fun d h => by simp [lookK] at h, rfl⟩
  | kv :: kvs, ds, r => by
    cases r with
    | cons r1 r2 =>
      obtain ⟨h1, h2⟩ := dk_look (k := k) r2
      simp only [List.map_cons, lookK]
      by_cases e : kv.1 = k
      · rw [if_pos e, valV_pos e]
        exact ⟨fun d h => by cases h; exact ⟨_, rfl, r1⟩, rfl⟩
      · rw [if_neg e, valV_neg e]
        exact ⟨h1, h2⟩
def inB : D → D → Option Bool
  | d, .tup ds => if flatD d && ds.all flatD then some (ds.any fun y => eqF y d) else none
  | d, .lst ds => if flatD d && ds.all flatD then some (ds.any fun y => eqF y d) else
      (toPy d).bind fun a => (toPys ds).bind fun as => if SeqAt.shaped a && SeqAt.shaped (.list as) then some (as.any fun z => PyData.eqv z a) else none
  | d, .dic ks ds => (keyD d).map fun k => (lookK ks ds k).isSome
  | .str x, .str y => some (!(Builtin.Str.occurrences y x 0 y.length 1).isEmpty)
  | _, _ => none
def inD (d e : D) : Option D := (inB d e).map .bl
def ninD (d e : D) : Option D := (inB d e).map fun b => .bl (!b)
/-- k in d -/
def rDkIn (f : Bool → Bool) : R2 := fun x y H Q => ∃ a kvs k, x = kV k ∧ y = .ref a ∧ H a = some (.dK kvs) ∧ Q (.bl (f (valV kvs k).isSome)) H
theorem op_dkIn {X : Cx} (hu : X.A.units + 200 < cLine) : OpR X (compareOp .In) (rDkIn id) := fun pins s σ H x y v u Q I rx ry h => by
  obtain ⟨a, kvs, k, rfl, rfl, hd, q⟩ := h
  cases ry
  exact d_in (by omega) I (DGet.k hd) rx fun s' I' => ⟨.bl _, H, I', rfl, q⟩
theorem op_dkNin {X : Cx} (hu : X.A.units + 200 < cLine) : OpR X (compareOp .NotIn) (rDkIn not) := fun pins s σ H x y v u Q I rx ry h => by
  obtain ⟨a, kvs, k, rfl, rfl, hd, q⟩ := h
  cases ry
  exact d_notIn (by omega) I (DGet.k hd) rx fun s' I' => ⟨.bl _, H, I', rfl, q⟩
def rInX (K : PySem.W.Frag) : R2 := fun x y H Q => rIn K false x y H Q ∨ (∃ i j, x = .str i ∧ y = .str j ∧ Q (.bl (!(Builtin.Str.occurrences j i 0 j.length 1).isEmpty)) H) ∨ rInD K x y H Q ∨ rDkIn id x y H Q
def rNinX (K : PySem.W.Frag) : R2 := fun x y H Q => rIn K true x y H Q ∨ (∃ i j, x = .str i ∧ y = .str j ∧ Q (.bl (!(!(Builtin.Str.occurrences j i 0 j.length 1).isEmpty))) H) ∨ rNotInD K x y H Q ∨ rDkIn not x y H Q
theorem op_inX {X : Cx} (hu : X.A.units + 200 < cLine) : OpR X (compareOp .In) (rInX X.K) := op_in_seq.or (op_in_str.or ((op_inD (by omega)).or (op_dkIn hu)))
theorem op_ninX {X : Cx} (hu : X.A.units + 200 < cLine) : OpR X (compareOp .NotIn) (rNinX X.K) := op_notIn_seq.or (op_notin_str.or ((op_notInD (by omega)).or (op_dkNin hu)))
theorem vr_in : VR2 K p (rInX K) inD := fun B H x y d1 d2 d Q hm r1 r2 e k => by
  unfold inD at e
  obtain ⟨b, eb, rfl⟩ := Option.map_eq_some_iff.mp e
  unfold inB at eb
  split at eb
  · split at eb
    · rename_i ds hs
      cases eb
      obtain ⟨s1, s2⟩ := Bool.and_eq_true_iff.mp hs
      cases r2 with
      | tup h q => exact .inl ⟨_, _, rfl, .inr h.t, by rw [flat_rep r1]; exact s1, by rw [flats_rep q]; exact s2, by rw [inF_rep r1 q]; exact k _ H (Same.refl H) (.bl _)⟩
    · cases eb
  · split at eb
    · rename_i ds hs
      cases eb
      obtain ⟨s1, s2⟩ := Bool.and_eq_true_iff.mp hs
      cases r2 with
      | lst h nb q => exact .inl ⟨_, _, rfl, .inl (.inl (.inl h)), by rw [flat_rep r1]; exact s1, by rw [flats_rep q]; exact s2, by rw [inF_rep r1 q]; exact k _ H (Same.refl H) (.bl _)⟩
    · obtain ⟨a, ea, eb⟩ := Option.bind_eq_some_iff.mp eb
      obtain ⟨as, eas, eb⟩ := Option.bind_eq_some_iff.mp eb
      split at eb
      · rename_i hs
        cases eb
        obtain ⟨s1, s2⟩ := Bool.and_eq_true_iff.mp hs
        cases r2 with
        | lst h nb q => exact .inr (.inr (.inl ⟨a, as, r1.dp _ _ _ ea, .lst (.inl (.inl h)) (Reps.dp _ _ _ q eas), s1, s2, k _ H (Same.refl H) (.bl _)⟩))
      · cases eb
  · obtain ⟨kk, ek, rfl⟩ := Option.map_eq_some_iff.mp eb
    cases r2 with
    | dic h nb nd q => exact .inr (.inr (.inr ⟨_, _, kk, key_rep r1 ek, rfl, h, by rw [← (dk_look q).2]; exact k _ H (Same.refl H) (.bl _)⟩))
  · cases eb
    rw [r1.isStr, r2.isStr]
    exact .inr (.inl ⟨_, _, rfl, rfl, k _ H (Same.refl H) (.bl _)⟩)
  · cases eb
theorem vr_nin : VR2 K p (rNinX K) ninD := fun B H x y d1 d2 d Q hm r1 r2 e k => by
  unfold ninD at e
  obtain ⟨b, eb, rfl⟩ := Option.map_eq_some_iff.mp e
  unfold inB at eb
  split at eb
  · split at eb
    · rename_i ds hs
      cases eb
      obtain ⟨s1, s2⟩ := Bool.and_eq_true_iff.mp hs
      cases r2 with
      | tup h q => exact .inl ⟨_, _, rfl, .inr h.t, by rw [flat_rep r1]; exact s1, by rw [flats_rep q]; exact s2, by rw [inF_rep r1 q]; exact k _ H (Same.refl H) (.bl _)⟩
    · cases eb
  · split at eb
    · rename_i ds hs
      cases eb
      obtain ⟨s1, s2⟩ := Bool.and_eq_true_iff.mp hs
      cases r2 with
      | lst h nb q => exact .inl ⟨_, _, rfl, .inl (.inl (.inl h)), by rw [flat_rep r1]; exact s1, by rw [flats_rep q]; exact s2, by rw [inF_rep r1 q]; exact k _ H (Same.refl H) (.bl _)⟩
    · obtain ⟨a, ea, eb⟩ := Option.bind_eq_some_iff.mp eb
      obtain ⟨as, eas, eb⟩ := Option.bind_eq_some_iff.mp eb
      split at eb
      · rename_i hs
        cases eb
        obtain ⟨s1, s2⟩ := Bool.and_eq_true_iff.mp hs
        cases r2 with
        | lst h nb q => exact .inr (.inr (.inl ⟨a, as, r1.dp _ _ _ ea, .lst (.inl (.inl h)) (Reps.dp _ _ _ q eas), s1, s2, k _ H (Same.refl H) (.bl _)⟩))
      · cases eb
  · obtain ⟨kk, ek, rfl⟩ := Option.map_eq_some_iff.mp eb
    cases r2 with
    | dic h nb nd q => exact .inr (.inr (.inr ⟨_, _, kk, key_rep r1 ek, rfl, h, by rw [← (dk_look q).2]; exact k _ H (Same.refl H) (.bl _)⟩))
  · cases eb
    rw [r1.isStr, r2.isStr]
    exact .inr (.inl ⟨_, _, rfl, rfl, k _ H (Same.refl H) (.bl _)⟩)
  · cases eb
/-! ### xs[i] -/
def ixD : D → D → Option D
  | .tup ds, .int i => atI ds i
  | .lst ds, .int i => atI ds i
  | .str x, .int i => if x.length ≤ sizeLine then (atI x.cps.toList i).map fun c => .str ⟨#[c]⟩ else none
  | .dic ks ds, .int i => lookK ks ds (.inl i)
  | .dic ks ds, .str x => lookK ks ds (.inr x)
  | _, _ => none
/-- d[k] -/
def rIxD : R2 := fun x y H Q => ∃ a kvs k v, x = .ref a ∧ y = kV k ∧ H a = some (.dK kvs) ∧ valV kvs k = some v ∧ Q v H
theorem ix_dict {X : Cx} : IxR X rIxD := by
  intro value slice pins s σ H x y v u Q I rx ry h hs
  obtain ⟨a, kvs, k, z, rfl, rfl, hd, hv, q⟩ := h
  cases rx
  obtain ⟨_, _, vs, rel, dd⟩ := dk_of I.hok hd
  obtain ⟨w', hw, rw'⟩ := RelO.some_of (v := z) (o := valueAt vs k) (by rw [← hv]; exact rel.val k)
  exact PyProof.Rows.subscriptTail_builtinR (x := w') dd.typeIs PySem.F.slot_dict_getitem.lookup (wpAny_getItem_of (kV_is ry) dd.mapOf hw ⟨rfl, z, H, I.tok _, rw', q⟩) hs
def rIxX (K : PySem.W.Frag) : R2 := fun x y H Q => rIx K x y H Q ∨ rIxD x y H Q
theorem ix_all {X : Cx} : IxR X (rIxX X.K) := ix_seq.or ix_dict
theorem Reps.atI {ds : List D} {vs : List V} {i : Int} {d : D} (r : Reps K p B H vs ds) (h : L2.atI ds i = some d) : ∃ v, L2.atI vs i = some v ∧ Rep K p B H v d := by
  unfold L2.atI at h ⊢
  rw [r.length]
  obtain ⟨j, ej, h⟩ := Option.bind_eq_some_iff.mp h
  obtain ⟨v, ev, q⟩ := r.get h
  exact ⟨v, by rw [ej]; exact ev, q⟩
theorem vr_ix : VR2 K p (rIxX K) ixD := fun B H x y d1 d2 d Q hm r1 r2 e k => by
  cases r1 <;> cases r2 <;> simp only [ixD] at e <;> first
    | cases e; done
    | skip
  · split at e
    · rename_i h
      obtain ⟨c, ec, rfl⟩ := Option.map_eq_some_iff.mp e
      exact .inl (.inr (.inr ⟨_, _, c, rfl, rfl, h, ec, k _ H (Same.refl H) (.str _)⟩))
    · cases e
  · rename_i h q _
    obtain ⟨v, ev, rv⟩ := q.atI e
    exact .inl (.inr (.inl ⟨_, _, _, v, rfl, rfl, h.t, ev, k v H (Same.refl H) rv⟩))
  · rename_i h nb q _
    obtain ⟨v, ev, rv⟩ := q.atI e
    exact .inl (.inl ⟨_, _, _, v, rfl, rfl, .inl (.inl h), ev, k v H (Same.refl H) rv⟩)
  · rename_i h nb nd q _
    obtain ⟨v, ev, rv⟩ := (dk_look q).1 _ e
    exact .inr ⟨_, _, .inl _, v, rfl, rfl, h, ev, k v H (Same.refl H) rv⟩
  · rename_i h nb nd q _
    obtain ⟨v, ev, rv⟩ := (dk_look q).1 _ e
    exact .inr ⟨_, _, .inr _, v, rfl, rfl, h, ev, k v H (Same.refl H) rv⟩
end

/-! ### calls of built-ins -/
section
variable {K : PySem.W.Frag} {p : Addr} {B : Addr → Prop} {H : Hp}
def lenD : List D → Option D
  | [.str x] => if x.length ≤ sizeLine then some (.int x.length) else none
  | [.tup ds] => some (.int ds.length)
  | [.lst ds] => some (.int ds.length)
  | _ => none
theorem vra_len : VRA K p (fun xs H Q => ∃ x n, xs = [x] ∧ LenV K x H n ∧ Q (.int n) H) lenD := fun B H xs ds d Q hm r e k => by
  unfold lenD at e
  split at e
  · obtain ⟨v, rfl, r'⟩ := r.one_inv
    rw [r'.isStr]
    split at e
    · rename_i h
      cases e
      exact ⟨_, _, rfl, ⟨h, rfl⟩, k _ H (Same.refl H) (.int _)⟩
    · cases e
  · obtain ⟨v, rfl, r'⟩ := r.one_inv
    cases e
    cases r' with
    | tup h q => exact ⟨_, _, rfl, .inr ⟨_, h.t, rfl⟩, by rw [q.length]; exact k _ H (Same.refl H) (.int _)⟩
  · obtain ⟨v, rfl, r'⟩ := r.one_inv
    cases e
    cases r' with
    | lst h nb q => exact ⟨_, _, rfl, .inl ⟨_, .inl (.inl h), rfl⟩, by rw [q.length]; exact k _ H (Same.refl H) (.int _)⟩
  · cases e
def intOf : List D → Option D
  | [.int i] => some (.int i)
  | [.bl b] => some (.int (if b then 1 else 0))
  | _ => none
theorem vra_int : VRA K p (fun xs H Q => (∃ i, xs = [.int i] ∧ Q (.int i) H) ∨ ∃ k, xs = [.bl k] ∧ Q (.int (if k then 1 else 0)) H) intOf := fun B H xs ds d Q hm r e k => by
  unfold intOf at e
  split at e
  · obtain ⟨v, rfl, r'⟩ := r.one_inv
    cases e
    rw [r'.isInt]
    exact .inl ⟨_, rfl, k _ H (Same.refl H) (.int _)⟩
  · obtain ⟨v, rfl, r'⟩ := r.one_inv
    cases e
    rw [rep_bl r']
    exact .inr ⟨_, rfl, k _ H (Same.refl H) (.int _)⟩
  · cases e
/-- a value's type -/
def tyD : D → Option String
  | .non => some "NoneType"
  | .bl _ => some "bool"
  | .int _ => some "int"
  | .str _ => some "str"
  | .tup _ => some "tuple"
  | .lst _ => some "list"
  | .dic _ _ => some "dict"
  | _ => none
def isiB (t : String) : String → Option Bool
  | "int" => some (t == "int" || t == "bool")
  | "bool" => some (t == "bool")
  | "str" => some (t == "str")
  | "tuple" => some (t == "tuple")
  | "list" => some (t == "list")
  | _ => none
def isiD : List D → Option D
  | [d, .ty n] => (tyD d).bind fun t => (isiB t n).map .bl
  | _ => none
theorem tyx_rep {d : D} {v : V} {t : String} (r : Rep K p B H v d) (h : tyD d = some t) : TyX K H v (.type t) := by
  cases r with
  | non => cases h; exact .base .non
  | bl b => cases h; exact .base (.bl b)
  | int i => cases h; exact .base (.int i)
  | str x => cases h; exact .base (.str x)
  | ty n => cases h
  | tup hs q =>
    cases h
    rcases hs with ⟨o, _, e⟩ | ⟨o, its, n, e, c, _⟩
    · exact .fTuple e
    · exact .kTuple e c
  | lst e nb q => cases h; exact .base (.lst e)
  | dic e nb nd q => cases h; exact .base (.dK e)
  | rng e nb => cases h
  | pool => cases h
  | ins _ _ _ _ _ => cases h
theorem isi_kit {t n : String} {d : D} {b : Bool} (ht : tyD d = some t) (h : isiB t n = some b) : PySem.W.kitOne K (.type t) (.type n) = some b := by
  have tt : t = "NoneType" ∨ t = "bool" ∨ t = "int" ∨ t = "str" ∨ t = "tuple" ∨ t = "list" ∨ t = "dict" := by
    cases d <;> simp only [tyD] at ht <;> first
      | cases ht; done
      | (cases ht; simp)
  unfold isiB at h
  split at h
  · cases h
    rcases tt with rfl | rfl | rfl | rfl | rfl | rfl | rfl <;> exact kit_ty (by decide +kernel)
  · cases h
    rcases tt with rfl | rfl | rfl | rfl | rfl | rfl | rfl <;> exact kit_ty (by decide +kernel)
  · cases h
    rcases tt with rfl | rfl | rfl | rfl | rfl | rfl | rfl <;> exact kit_ty (by decide +kernel)
  · cases h
    rcases tt with rfl | rfl | rfl | rfl | rfl | rfl | rfl <;> exact kit_ty (by decide +kernel)
  · cases h
    rcases tt with rfl | rfl | rfl | rfl | rfl | rfl | rfl <;> exact kit_ty (by decide +kernel)
  · cases h
theorem vra_isi : VRA K p (rIsi K) isiD := fun B H xs ds d Q hm r e k => by
  unfold isiD at e
  split at e
  · rename_i d0 n
    obtain ⟨v, w, rfl, r1, r2⟩ := r.two_inv
    obtain ⟨t, et, e⟩ := Option.bind_eq_some_iff.mp e
    obtain ⟨b, eb, rfl⟩ := Option.map_eq_some_iff.mp e
    rw [r2.isTy]
    exact ⟨_, _, _, _, b, rfl, .ty n, tyx_rep r1 et, isi_kit et eb, k _ H (Same.refl H) (.bl _)⟩
  · cases e
/-- tuple(xs): a new one has no dict -/
def rTupN (K : PySem.W.Frag) : List V → Hp → VK → Prop := fun xs H Q => ∃ a ys, xs = [.ref a] ∧ ((SqL K H a ys ∧ ∀ (q : Addr) (o : Obj), o.dict = none → H q = none → Q (.ref q) (upd H q (.frz o (.tup ys)))) ∨ (SqT K H a ys ∧ Q (.ref a) H))
theorem call_tupN {X : Cx} : CallR X (.type "tuple") (rTupN X.K) := by
  intro pins s σ H xs us Q I r h
  obtain ⟨a, ys, rfl, h⟩ := h
  obtain ⟨u, rfl, rx⟩ := vals1 r
  cases rx
  rcases h with ⟨hq, q⟩ | ⟨hq, q⟩
  · obtain ⟨its, r', pl, hz⟩ := I.list hq
    have hlen := r'.length
    refine call_tuple_list pl.isList (fun h' kp => ?_) (by simp only [List.size_toArray] <;> omega)
    have I1 : Inv X pins σ H { s with heap := h' } := I.kept (t' := s.toks) kp
    refine ⟨.ref h'.objs.size, upd H h'.objs.size (.frz { cls := .type "tuple", data := .seq its.toArray } (.tup ys)), ?_, rfl, q _ _ rfl (I1.hok.fresh (Nat.le_refl _))⟩
    exact I1.laid (t' := s.toks) (fun _ _ z => Heap.get?_push_of_some _ z) (Nat.le_refl _) ⟨Heap.get?_push_size _ rfl, hz, its, r', PyProof.Rows.IsTup.new _ _⟩
  · obtain ⟨its, _, pl, _⟩ := I.tuple hq
    exact call_tuple_same pl ⟨.ref a, H, I, rfl, q⟩
def tupOf : List D → Option D
  | [.lst ds] => some (.tup ds)
  | [.tup ds] => some (.tup ds)
  | _ => none
theorem vra_tup : VRA K p (rTupN K) tupOf := fun B H xs ds d Q hm r e k => by
  unfold tupOf at e
  split at e
  · obtain ⟨v, rfl, r'⟩ := r.one_inv
    cases e
    cases r' with
    | lst h nb q => exact ⟨_, _, rfl, .inl ⟨.inl (.inl h), fun a o ho ha => k _ _ (same_new ha) (q.tup ha ho)⟩⟩
  · obtain ⟨v, rfl, r'⟩ := r.one_inv
    cases e
    cases r' with
    | tup h q => exact ⟨_, _, rfl, .inr ⟨h.t, k _ H (Same.refl H) (.tup h q)⟩⟩
  · cases e
def intsD : List D → Option (List Int)
  | [] => some []
  | .int i :: ds => (intsD ds).map fun is => i :: is
  | _ :: _ => none
theorem ints_rep : ∀ {ds : List D} {vs : List V} {is : List Int}, Reps K p B H vs ds → intsD ds = some is → vs = is.map V.int
  | [], _, _, r, e => by cases r; cases e; rfl
  | d :: ds, _, is, r, e => by
    cases r with
    | cons r1 r2 =>
      cases d <;> simp only [intsD] at e <;> first
        | cases e; done
        | skip
      obtain ⟨js, ej, rfl⟩ := Option.map_eq_some_iff.mp e
      rw [r1.isInt, ints_rep r2 ej]
      rfl
def maxL : List Int → Option Int
  | [] => none
  | i :: is => some (is.foldl max i)
theorem maxL_is {is : List Int} {m m' : Int} (h : maxL is = some m) (h1 : m' ∈ is) (h2 : ∀ y, y ∈ is → y ≤ m') : m' = m := by
  cases is with
  | nil => cases h
  | cons i is =>
    cases h
    have key : ∀ (l : List Int) (a : Int), a ≤ l.foldl max a ∧ (∀ y ∈ l, y ≤ l.foldl max a) ∧ (l.foldl max a = a ∨ l.foldl max a ∈ l) := by
      intro l
      induction l with
      | nil => intro a; exact ⟨Int.le_refl a, (fun _ h => nomatch h), .inl rfl⟩
      | cons b l ih =>
        intro a
        obtain ⟨q1, q2, q3⟩ := ih (max a b)
        have ha : a ≤ max a b := Int.le_max_left a b
        have hb : b ≤ max a b := Int.le_max_right a b
        refine ⟨Int.le_trans ha q1, fun y hy => ?_, ?_⟩
        · rcases List.mem_cons.mp hy with rfl | hy
          · exact Int.le_trans hb q1
          · exact q2 y hy
        · rcases q3 with q3 | q3
          · by_cases hab : a ≤ b
            · right
              show List.foldl max (max a b) l ∈ _
              rw [q3, Int.max_eq_right hab]
              exact List.mem_cons_self
            · left
              show List.foldl max (max a b) l = a
              rw [q3, Int.max_eq_left (by omega)]
          · exact .inr (List.mem_cons_of_mem _ q3)
    obtain ⟨q1, q2, q3⟩ := key is i
    have hle : is.foldl max i ≤ m' := by
      rcases q3 with q3 | q3
      · rw [q3]
        exact h2 i List.mem_cons_self
      · exact h2 _ (List.mem_cons_of_mem _ q3)
    have hge : m' ≤ is.foldl max i := by
      rcases List.mem_cons.mp h1 with rfl | h1
      · exact q1
      · exact q2 _ h1
    omega
def maxD : List D → Option D
  | [.int i, .int j] => some (.int (if j > i then j else i))
  | [.lst ds] => ((intsD ds).bind maxL).map .int
  | _ => none
def rMaxX (K : PySem.W.Frag) : List V → Hp → VK → Prop := fun xs H Q => (∃ i j, xs = [.int i, .int j] ∧ Q (.int (if j > i then j else i)) H) ∨ rMax K xs H Q
theorem vra_max : VRA K p (rMaxX K) maxD := fun B H xs ds d Q hm r e k => by
  unfold maxD at e
  split at e
  · obtain ⟨v, w, rfl, r1, r2⟩ := r.two_inv
    cases e
    rw [r1.isInt, r2.isInt]
    exact .inl ⟨_, _, rfl, k _ H (Same.refl H) (.int _)⟩
  · obtain ⟨v, rfl, r'⟩ := r.one_inv
    obtain ⟨m, em, rfl⟩ := Option.map_eq_some_iff.mp e
    obtain ⟨is, ei, em⟩ := Option.bind_eq_some_iff.mp em
    cases r' with
    | lst h nb q =>
      have ev := ints_rep q ei
      rw [ev] at h
      refine .inr ⟨_, is, rfl, .inl (.inl h), ?_, fun m' h1 h2 => ?_⟩
      · cases is with
        | nil => cases em
        | cons _ _ => simp
      · rw [maxL_is em h1 h2]
        exact k _ H (Same.refl H) (.int _)
  · cases e
end
/-! ### slices -/
def cutD {α : Type} (xs : List α) (lo hi : Option Int) : List α := (xs.drop (HT.sIx xs.length 0 lo)).take (HT.sIx xs.length xs.length hi - HT.sIx xs.length 0 lo)
def optI : Option D → Option (Option Int)
  | none => some none
  | some (.int i) => some (some i)
  | _ => none
abbrev OM := RC → En → List D → Option (Option Int × List D)
def oNone : OM := fun _ _ S => some (none, S)
def oSome (f : XM) : OM := fun R env S => (f R env S).bind fun x => match x.1 with
  | .int i => some (some i, x.2)
  | _ => none
def sliD (d : D) (lo hi : Option Int) : Option D := match d with
  | .tup ds => some (.tup (cutD ds lo hi))
  | .lst ds => some (.lst (cutD ds lo hi))
  | _ => none
def xSli (f : XM) (lo hi : OM) : XM := fun R env S => (f R env S).bind fun x => (lo R env x.2).bind fun l => (hi R env l.2).bind fun h => (sliD x.1 l.1 h.1).map fun d => (d, h.2)
section
variable {X : Cx} {p : Addr} {e a b : Expr} {pos : Pos}
def tOI (K : PySem.W.Frag) (p : Addr) (f : En → List D → Option (Option Int × List D)) : TO := fun σ H Q => ∃ env S B0 oa, FI K p B0 oa env σ H S ∧ ∃ r, f env S = some r ∧
  ∀ H', FI K p B0 oa env σ H' r.2 → Keep p H H' → Q r.1 H'
theorem _root_.L2.PO.imp {X : Cx} {e : Option Expr} {t t' : TO} (h : PO X e t) (f : ∀ σ H Q, t' σ H Q → t σ H Q) : PO X e t' := ⟨fun pins s σ H Q I q => h.run pins s σ H Q I (f σ H Q q)⟩
theorem io_none {R : RC} : PO X none (tOI X.K p (oNone R)) := po_none.imp fun σ H Q q => by
  obtain ⟨env, S, B0, oa, f0, w, e1, k⟩ := q
  cases e1
  exact k H f0 (Keep.refl p H)
theorem io_some {f : XM} {R : RC} (h : PE X e (tI X.K p (f R))) : PO X (some e) (tOI X.K p (oSome f R)) := (po_some h).imp fun σ H Q q => by
  obtain ⟨env, S, B0, oa, f0, w, e1, k⟩ := q
  unfold oSome at e1
  obtain ⟨x, ex, e1⟩ := Option.bind_eq_some_iff.mp e1
  refine ⟨env, S, B0, oa, f0, x, ex, fun v H1 f1 k1 r1 => ?_⟩
  split at e1
  · rename_i i hi
    rw [hi] at r1
    cases e1
    exact ⟨i, r1.isInt, k H1 f1 k1⟩
  · cases e1
theorem Reps.cut {K : PySem.W.Frag} {B : Addr → Prop} {H : Hp} {vs : List V} {ds : List D} (r : Reps K p B H vs ds) (lo hi : Option Int) : Reps K p B H (cutV vs lo hi) (cutD ds lo hi) := by
  unfold cutV cutD
  rw [r.length]
  exact (r.drop _).take _
theorem take_all {α : Type} {xs : List α} {lo hi : Option Int} (h : HT.sIx xs.length 0 lo = 0 ∧ HT.sIx xs.length xs.length hi = xs.length) : cutD xs lo hi = xs := by
  unfold cutD
  rw [h.1, h.2, List.drop_zero, Nat.sub_zero]
  exact List.take_length
/-- t[lo:hi]: the whole of it is t itself, a new one has no dict -/
def rSlN (K : PySem.W.Frag) : V → Option Int → Option Int → Hp → VK → Prop := fun x lo hi H Q => ∃ a xs, x = .ref a ∧ SqT K H a xs ∧
  (HT.sIx xs.length 0 lo = 0 ∧ HT.sIx xs.length xs.length hi = xs.length → Q (.ref a) H) ∧ (¬ (HT.sIx xs.length 0 lo = 0 ∧ HT.sIx xs.length xs.length hi = xs.length) → ∀ (q : Addr) (o : Obj), o.dict = none → H q = none → Q (.ref q) (upd H q (.frz o (.tup (cutV xs lo hi)))))
theorem sl_tupN : SlR X (rSlN X.K) := by
  intro pins s σ H x v vl vu lo hi sl Q I rx hs pl pu h
  obtain ⟨a, xs, rfl, hx, q1, q2⟩ := h
  cases rx
  obtain ⟨its, r, ht, hz⟩ := I.tuple hx
  have hlen : its.toArray.size = xs.length := by rw [List.size_toArray]; exact r.length.symm
  refine ⟨"tuple", _, PyProof.Rows.slot_tuple_getitem.lookup, ht.typeIs, ?_⟩
  by_cases hw : HT.sIx xs.length 0 lo = 0 ∧ HT.sIx xs.length xs.length hi = xs.length
  · exact getItem_tuple_whole ht hs pl pu (by rw [hlen]; exact hw) ⟨.ref a, H, I, rfl, q1 hw⟩
  · refine HT.getItem_tuple_cut ht hs pl pu (by rw [hlen]; exact hw) ?_ (by rw [hlen]; exact hz)
    rw [hlen]
    refine ⟨.ref s.heap.objs.size, _, I.laid (t' := s.toks) (o := .frz _ (.tup (cutV xs lo hi))) (fun _ _ z => Heap.get?_push_of_some _ z) (Nat.le_refl _) ⟨Heap.get?_push_size _ rfl, ?_⟩, rfl, q2 hw _ _ rfl (I.hok.fresh (Nat.le_refl _))⟩
    exact ⟨Nat.le_trans (cutV_length xs lo hi) hz, _, (r.drop (HT.sIx xs.length 0 lo)).take (HT.sIx xs.length xs.length hi - HT.sIx xs.length 0 lo), PyProof.Rows.IsTup.new _ _⟩
theorem ie_sli {f : XM} {lo hi : OM} {R : RC} {l u : Option Expr} {p2 : Pos} (h : PE X e (tI X.K p (f R))) (hl : PO X l (tOI X.K p (lo R))) (hu : PO X u (tOI X.K p (hi R))) : PE X (.Subscript e (.Slice l u none p2) pos) (tI X.K p (xSli f lo hi R)) := (pe_slice (sl_list.or sl_tupN) h hl hu).imp fun σ H Q q => by
  obtain ⟨env, S, B0, oa, f0, w, e1, k⟩ := q
  unfold xSli at e1
  obtain ⟨x, ex, e1⟩ := Option.bind_eq_some_iff.mp e1
  obtain ⟨y, ey, e1⟩ := Option.bind_eq_some_iff.mp e1
  obtain ⟨z, ez, e1⟩ := Option.bind_eq_some_iff.mp e1
  obtain ⟨d, ed, e1⟩ := Option.map_eq_some_iff.mp e1
  subst e1
  refine ⟨env, S, B0, oa, f0, x, ex, fun v H1 f1 k1 r1 => ⟨env, _, B0, oa, f1, y, ey, fun H2 f2 k2 => ⟨env, _, B0, oa, f2, z, ez, fun H3 f3 k3 => ?_⟩⟩⟩
  have k23 := k2.trans k3
  have k13 := k1.trans k23
  have r3 := r1.keep f1 k23
  generalize x.1 = dx at r3 ed
  cases r3 with
  | tup hs q =>
    cases ed
    refine .inr ⟨_, _, rfl, hs.t, fun hw => ?_, fun _ a o ho ha => ?_⟩
    · rw [q.length] at hw
      refine k _ H3 f3 k13 ?_
      rw [take_all hw]
      exact .tup hs q
    · exact k _ _ (f3.same (same_new ha)) (k13.trans (Keep.of (same_new ha))) ((q.cut _ _).tup ha ho)
  | lst hs nb q =>
    cases ed
    refine .inl ⟨_, _, rfl, .inl (.inl hs), fun a ha => ?_⟩
    exact k _ _ (f3.same (same_new ha)) (k13.trans (Keep.of (same_new ha))) ((q.cut _ _).lst f3.mut ha)
  | _ => cases ed
end
end Ip

set_option maxHeartbeats 1000000
/-! IpF: the pool; several names at once; own lists written. -/
namespace Ip
open PySem L2

/-! ### the pool -/
/-- xs[i], the pool's items too -/
def xIx (f g : XM) : XM := fun R env S => (f R env S).bind fun x => (g R env x.2).bind fun y => match x.1, y.1 with
  | .pool, .int i => (atI y.2 i).map fun d => (d, y.2)
  | d, e => (ixD d e).map fun r => (r, y.2)
section
variable {X : Cx} {p : Addr} {e a b c : Expr} {pos : Pos}
theorem ie_xix {f g : XM} {R : RC} (ha : PE X a (tI X.K p (f R))) (hb : PE X b (tI X.K p (g R))) (hm : PlainIx b) : PE X (.Subscript a b pos) (tI X.K p (xIx f g R)) := (pe_ix ix_all ha hb hm).imp fun σ H Q q => by
  obtain ⟨env, S, B0, oa, f0, w, e1, k⟩ := q
  unfold xIx at e1
  obtain ⟨x, ex, e1⟩ := Option.bind_eq_some_iff.mp e1
  obtain ⟨y, ey, e1⟩ := Option.bind_eq_some_iff.mp e1
  refine ⟨env, S, B0, oa, f0, x, ex, fun v H1 f1 k1 r1 => ⟨env, _, B0, oa, f1, y, ey, fun u H2 f2 k2 r2 => ?_⟩⟩
  have r3 := r1.keep f1 k2
  split at e1
  · rename_i i h1 h2
    rw [h1] at r3
    rw [h2] at r2
    obtain ⟨d, ed, rfl⟩ := Option.map_eq_some_iff.mp e1
    obtain ⟨vs, ep, rp⟩ := f2.pool
    obtain ⟨z, ez, rz⟩ := rp.atI ed
    cases r3
    exact .inl (.inl ⟨_, _, i, z, rfl, r2.isInt, .inl (.inl ep), ez, k z H2 f2 (k1.trans k2) rz⟩)
  · obtain ⟨d, ed, rfl⟩ := Option.map_eq_some_iff.mp e1
    exact vr_ix _ H2 v u _ _ d Q f2.mut r3 r2 ed fun z H3 s3 r5 => k z H3 (f2.same s3) ((k1.trans k2).trans (Keep.of s3)) r5
def sPool (fo fi fv : XM) : SM := fun R env S => (fv R env S).bind fun x => (fo R env x.2).bind fun y => (fi R env y.2).bind fun z => match y.1, z.1 with
  | .pool, .int i => (ixN z.2.length i).map fun j => (.nx, env, z.2.set j x.1)
  | _, _ => none
theorem is_pool {fo fi fv : XM} {R : RC} {o i e : Expr} {pos' : Pos} (ho : PE X o (tI X.K p (fo R))) (hi : PE X i (tI X.K p (fi R))) (hv : PE X e (tI X.K p (fv R))) (hs : swapsWithSole [.Subscript o i pos'] e pos.line X.env = pure false) (hw : swappedStores [.Subscript o i pos'] e X.env = pure none)
    (h1 : (assignEach [.Subscript o i pos'] X.env).map (·.2) = [assign (.Subscript o i pos') X.env])
    (h2 : ∀ v, assign (.Subscript o i pos') X.env v = (do
      let ov ← holding [v] (eval o X.env)
      let iv ← holding [v, ov] (eval i X.env)
      standAt pos'
      holding [v, ov, iv] (setItem ov iv v)
      release [v, ov, iv] [])) : PS X (.Assign [.Subscript o i pos'] e pos) (tIS X.K p (sPool fo fi fv R)) := (ps_asg hv (pg_sub ho hi set_list h2) hs hw h1).imp fun Dn σ H q => by
  obtain ⟨env, S, B0, oa, f0, w, e1, k⟩ := q
  unfold sPool at e1
  obtain ⟨x, ex, e1⟩ := Option.bind_eq_some_iff.mp e1
  obtain ⟨y, ey, e1⟩ := Option.bind_eq_some_iff.mp e1
  obtain ⟨z, ez, e1⟩ := Option.bind_eq_some_iff.mp e1
  refine ⟨env, S, B0, oa, f0, x, ex, fun v H1 f1 q1 r1 => ⟨env, _, B0, oa, f1, y, ey, fun u H2 f2 q2 r2 => ⟨env, _, B0, oa, f2, z, ez, fun t H3 f3 q3 r3 => ?_⟩⟩⟩
  have rv := (r1.keep f1 q2).keep f2 q3
  have ru := r2.keep f2 q3
  split at e1
  · rename_i i h1 h2
    rw [h1] at ru
    rw [h2] at r3
    obtain ⟨j, ej, e1⟩ := Option.map_eq_some_iff.mp e1
    subst e1
    obtain ⟨vs, ep, rp⟩ := f3.pool
    cases ru
    refine ⟨_, vs, i, j, rfl, r3.isInt, ep, by rw [rp.length]; exact ej, ?_⟩
    have kp : Keep p H3 (upd H3 p (.lst (vs.set j v))) := fun b o nb h => by
      rw [upd_ne nb]
      exact h
    have ps : PoolOk X.K p (Bf B0 p oa) (upd H3 p (.lst (vs.set j v))) (z.2.set j x.1) := ⟨_, upd_same, ((rp.set rv j).keep f3 kp)⟩
    have f4 := f3.keep kp ps
    exact k σ _ oa f4 ((((q1.trans q2).trans q3).trans kp).mv f4.pool.some)
  · cases e1

/-! ### several names at once -/
/-- what was evaluated earlier is put later -/
theorem VOk.later {K : PySem.W.Frag} {B0 : Addr → Prop} {oa : Oa} {env : En} {σ : L2.St} {H H1 : Hp} {S1 : List D} {x : SV} {v : V} (h : VOk K p B0 oa env σ H H1 S1 x v) :
    ∃ B1, FI K p B1 oa env σ H1 S1 ∧ Keep p H H1 ∧ ∀ {oa' : Oa} {env' : En} {σ' : L2.St} {H2 : Hp} {S2 : List D} {i : Nat}, FI K p B1 oa' env' σ' H2 S2 → Keep p H1 H2 → Mv p oa oa' H1 H2 → i < env'.length →
      ∃ oa2, FI K p B0 oa2 (env'.set i (some x)) (σ'.set i (some v)) H2 S2 ∧ Mv p oa oa2 H H2 := by
  have bfm : ∀ {B : Addr → Prop} {oa oa' : Oa} {H1 H2 : Hp}, Mv p oa oa' H1 H2 → ∀ b, Bf B p oa' b → Bf B p oa b ∨ H1 b = none := fun m b h => by
    rcases h with h | h | h
    · exact .inl (.inl h)
    · exact .inl (.inr (.inl h))
    · rcases m.nw b h with z | z
      · exact .inl (.inr (.inr z))
      · exact .inr z
  cases h with
  | sh f k r =>
    refine ⟨B0, f, k, fun {oa' env' σ' H2 S2 i} f2 k2 m2 hi => ?_⟩
    have r2 := r.move (fun b o nb q => k2 b o (fun z => nb (.inr (.inl z))) q) (bfm m2) f.mut
    exact ⟨_, f2.set i r2, ((k.mv f.pool.some).trans m2).trans (Mv.drop i)⟩
  | @own a _ f k ha q nb np no nx =>
    refine ⟨_, f, k, fun {oa' env' σ' H2 S2 i} f2 k2 m2 hi => ?_⟩
    have no2 : ∀ j, oa' j ≠ some a := fun j z => (f2.dis j a z).1 (.inr rfl)
    have q2 : OwnAt K p (Bf (fun b => B0 b ∨ b = a) p oa') H2 a x := by
      cases q with
      | own e r => exact .own (k2 a _ np e) (r.move (fun b o nb q => k2 b o (fun z => nb (.inr (.inl z))) q) (bfm m2) f.mut)
      | ownD e n r => exact .ownD (k2 a _ np e) n (r.move (fun b o nb q => k2 b o (fun z => nb (.inr (.inl z))) q) (bfm m2) f.mut)
    refine ⟨_, f2.setOwn i hi np nb no2 nx q2, ?_⟩
    have m := (k.mv f.pool.some).trans m2
    refine ⟨m.kp, m.pk, fun b h => ?_⟩
    rcases own_put h with z | z
    · exact m.nw b z
    · exact .inr (z ▸ ha)
def sPar (i j : Nat) (f g : RM) : SM := fun R env S => (f R env S).bind fun x => (g R env x.2).bind fun y => if i < env.length ∧ j < env.length ∧ i ≠ j then some (.nx, (env.set i (some x.1)).set j (some y.1), y.2) else none
theorem is_par {i j : Nat} {x y : Str} {px py pt : Pos} {kt k2 pt2} {f g : RM} {R : RC} (hc : X.calm = true) (hN : X.N.Nodup) (hi : X.N[i]? = some x) (hj : X.N[j]? = some y) (hij : i ≠ j)
    (hx : X.env.scope.names.lookup x = some .local) (hy : X.env.scope.names.lookup y = some .local) (ha : PE X a (tVI X.K p (f R))) (hb : PE X b (tVI X.K p (g R)))
    (hsa : starEach [a, b] X.env = (false, eval a X.env) :: starEach [b] X.env) (hsb : starEach [b] X.env = (false, eval b X.env) :: starEach [] X.env)
    (hw : swappedStores [.Tuple [.Name x px, .Name y py] kt pt] (.Tuple [a, b] k2 pt2) X.env = pure (some [x, y]))
    (hs : swapsWithSole [.Tuple [.Name x px, .Name y py] kt pt] (.Tuple [a, b] k2 pt2) pos.line X.env = pure false) :
    PS X (.Assign [.Tuple [.Name x px, .Name y py] kt pt] (.Tuple [a, b] k2 pt2) pos) (tIS X.K p (sPar i j f g R)) := (ps_par hc hN hi hj hij hx hy (pa_cons ha (pa_cons hb pa_nil hsb) hsa) hw hs).imp fun Dn σ H q => by
  obtain ⟨env, S, B0, oa, f0, w, e1, k⟩ := q
  unfold sPar at e1
  obtain ⟨x1, ex, e1⟩ := Option.bind_eq_some_iff.mp e1
  obtain ⟨y1, ey, e1⟩ := Option.bind_eq_some_iff.mp e1
  split at e1
  · rename_i hl
    cases e1
    refine ⟨env, S, B0, oa, f0, x1, ex, fun v H1 h1 => ?_⟩
    obtain ⟨B1, f1, k1, put1⟩ := h1.later
    refine ⟨env, _, B1, oa, f1, y1, ey, fun u H2 h2 => ⟨v, u, rfl, ?_⟩⟩
    obtain ⟨_, _, k2, _⟩ := h2.later
    obtain ⟨oa2, f2, m2⟩ := h2.put hl.2.1
    obtain ⟨oa3, f3, m3⟩ := put1 f2 k2 m2 (by rw [List.length_set]; exact hl.1)
    rw [List.set_comm _ _ hij.symm, List.set_comm _ _ hij.symm] at f3
    exact k _ H2 oa3 f3 m3
  · cases e1
/-- a, b, c = x, y, z with plain local names: stored from the right -/
def tPar3 (i j l : Nat) (ta : TA) : TS := fun D σ H => ta σ H fun vs H1 => ∃ v w u, vs = [v, w, u] ∧ D.nx (((σ.set i (some v)).set j (some w)).set l (some u)) H1
open PySem.Spec PyProof.Rows in
theorem ps_par3 {i j l : Nat} {x y z : Str} {a b c : Expr} {ta : TA} {px py pz pt : Pos} {kt k2 pt2} (hc : X.calm = true) (hN : X.N.Nodup) (hi : X.N[i]? = some x) (hj : X.N[j]? = some y) (hl : X.N[l]? = some z) (hij : i ≠ j) (hil : i ≠ l) (hjl : j ≠ l)
    (hx : X.env.scope.names.lookup x = some .local) (hy : X.env.scope.names.lookup y = some .local) (hz : X.env.scope.names.lookup z = some .local) (ha : PA X [a, b, c] ta)
    (hw : swappedStores [.Tuple [.Name x px, .Name y py, .Name z pz] kt pt] (.Tuple [a, b, c] k2 pt2) X.env = pure (some [x, y, z]))
    (hs : swapsWithSole [.Tuple [.Name x px, .Name y py, .Name z pz] kt pt] (.Tuple [a, b, c] k2 pt2) pos.line X.env = pure false) :
    PS X (.Assign [.Tuple [.Name x px, .Name y py, .Name z pz] kt pt] (.Tuple [a, b, c] k2 pt2) pos) (tPar3 i j l ta) := by
  refine ⟨fun pins s σ H D I h => ?_⟩
  rw [exec_Assign_arm]
  refine wpAny_bind (wpAny_standAt ?_)
  rw [hs]
  refine wpAny_bind (wpAny_pure ?_)
  rw [if_neg (by decide)]
  refine wpAny_bind (Tuple_ (thn (ha.run _ pins s σ H _ I h) fun us s1 ⟨vs, H1, I1, r1, q1⟩ => ?_))
  obtain ⟨v, w, u, e1, q1⟩ := q1
  subst e1
  obtain ⟨u1, u2, u3, rfl, rv, rw', ru⟩ : ∃ u1 u2 u3, us = [u1, u2, u3] ∧ RelV v u1 ∧ RelV w u2 ∧ RelV u u3 := by
    cases r1 with
    | cons p q =>
      cases q with
      | cons p' q' =>
        cases q' with
        | cons p'' q'' =>
          cases q''
          exact ⟨_, _, _, rfl, p, p', p''⟩
  refine wpAny_newObj_type ?_ (by show 3 ≤ sizeLine; decide)
  have I2 : Inv X pins σ H1 { s1 with heap := s1.heap.push { cls := .type "tuple", data := .seq [u1, u2, u3].toArray } } := I1.kept (t' := s1.toks) fun b o e => Heap.get?_push_of_some _ e
  rw [hw]
  refine wpAny_bind (wpAny_pure ?_)
  show wpAny (model X.prog X.w) X.A (do rule "assign.swapped-stores"; let items ← unpackItems (.ref s1.heap.objs.size) 3 none; assignInOrder [fun v => bindName X.env z v, fun v => bindName X.env y v, fun v => bindName X.env x v] items.reverse; pure Flow.next) _ _ _
  refine wpAny_bind (wpAny_rule (wpAny_bind (unpackItems_tuple (items := #[u1, u2, u3]) (I.ok.hd hc) (IsTup.new s1.heap _) fun h' hx' => ?_)))
  have I3 := I2.kept (h' := h') (t' := s1.toks) fun b o e => hx' b o (Nat.ne_of_lt (Heap.lt_size e)) e
  show wpAny _ _ (assignInOrder [fun v => bindName X.env z v, fun v => bindName X.env y v, fun v => bindName X.env x v] [u3, u2, u1] >>= fun _ => pure Flow.next) _ _ _
  refine wpAny_bind (assignInOrder_cons (wpAny_bindName (store_ok I3 hN hl (.inl hz) ru (fun s2 I4 => ?_) (.inr hz))))
  refine assignInOrder_cons (wpAny_bindName (store_ok I4 hN hj (.inl hy) rw' (fun s3 I5 => ?_) (.inr hy)))
  refine assignInOrder_cons (wpAny_bindName (store_ok I5 hN hi (.inl hx) rv (fun s4 I6 => assignInOrder_nil (wpAny_pure ?_)) (.inr hx)))
  rw [List.set_comm _ _ hjl.symm, List.set_comm _ _ hil.symm, List.set_comm _ _ hij.symm] at I6
  exact ⟨_, H1, I6, q1⟩
end
end Ip

set_option maxHeartbeats 1000000
/-! IpX: more operations on values. -/
namespace Ip
open PySem L2 PyProof.Rows

section
variable {K : PySem.W.Frag} {p : Addr} {B : Addr → Prop} {H : Hp}
/-! ### all, any -/
def blsD : List D → Option (List Bool)
  | [] => some []
  | .bl b :: ds => (blsD ds).map fun bs => b :: bs
  | _ :: _ => none
theorem bls_rep : ∀ {ds : List D} {vs : List V} {bs : List Bool}, Reps K p B H vs ds → blsD ds = some bs → vs = bs.map V.bl
  | [], _, _, r, h => by
    cases r
    cases h
    rfl
  | d :: ds, _, _, r, h => by
    cases r with
    | cons r1 r2 =>
      cases d <;> simp only [blsD] at h <;> first
        | cases h; done
        | skip
      obtain ⟨bs, eb, rfl⟩ := Option.map_eq_some_iff.mp h
      cases r1
      rw [bls_rep r2 eb]
      rfl
def allD : List D → Option D
  | [.lst ds] => (blsD ds).map fun bs => .bl (bs.all id)
  | _ => none
def anyD : List D → Option D
  | [.lst ds] => (blsD ds).map fun bs => .bl (bs.any id)
  | _ => none
theorem vra_all : VRA K p (rAll K) allD := fun B H xs ds d Q hm r e k => by
  unfold allD at e
  split at e
  · obtain ⟨v, rfl, r'⟩ := r.one_inv
    obtain ⟨bs, eb, rfl⟩ := Option.map_eq_some_iff.mp e
    cases r' with
    | lst h nb q =>
      rw [bls_rep q eb] at h
      exact ⟨_, bs, rfl, .inl (.inl h), k _ H (Same.refl H) (.bl _)⟩
  · cases e
theorem vra_any : VRA K p (rAny K) anyD := fun B H xs ds d Q hm r e k => by
  unfold anyD at e
  split at e
  · obtain ⟨v, rfl, r'⟩ := r.one_inv
    obtain ⟨bs, eb, rfl⟩ := Option.map_eq_some_iff.mp e
    cases r' with
    | lst h nb q =>
      rw [bls_rep q eb] at h
      exact ⟨_, bs, rfl, .inl (.inl h), k _ H (Same.refl H) (.bl _)⟩
  · cases e
/-! ### min, sum -/
def minL : List Int → Option Int
  | [] => none
  | i :: is => some (is.foldl (fun a b => if b < a then b else a) i)
theorem min_fold : ∀ (is : List Int) (i : Int), (is.foldl (fun a b => if b < a then b else a) i ∈ i :: is) ∧ ∀ y ∈ i :: is, is.foldl (fun a b => if b < a then b else a) i ≤ y
  | [], i => ⟨by simp, fun y h => by simp at h; simp [h]⟩
  | j :: is, i => by
    obtain ⟨h1, h2⟩ := min_fold is (if j < i then j else i)
    rw [List.foldl_cons]
    constructor
    · rcases List.mem_cons.mp h1 with h | h
      · rw [h]
        split <;> simp
      · exact List.mem_cons_of_mem _ (List.mem_cons_of_mem _ h)
    · intro y hy
      have h3 := h2 (if j < i then j else i) List.mem_cons_self
      rcases List.mem_cons.mp hy with h | h
      · refine Int.le_trans h3 ?_
        rw [h]
        split <;> omega
      · rcases List.mem_cons.mp h with h | h
        · refine Int.le_trans h3 ?_
          rw [h]
          split <;> omega
        · exact h2 y (List.mem_cons_of_mem _ h)
theorem minL_is {is : List Int} {m m' : Int} (h : minL is = some m) (h1 : m' ∈ is) (h2 : ∀ y, y ∈ is → m' ≤ y) : m' = m := by
  cases is with
  | nil => cases h
  | cons i is =>
    cases h
    obtain ⟨a, b⟩ := min_fold is i
    exact Int.le_antisymm (h2 _ a) (b _ h1)
def minD : List D → Option D
  | [.int i, .int j] => some (.int (if j < i then j else i))
  | [.lst ds] => ((intsD ds).bind minL).map .int
  | _ => none
def rMinX (K : PySem.W.Frag) : List V → Hp → VK → Prop := fun xs H Q => (∃ i j, xs = [.int i, .int j] ∧ Q (.int (if j < i then j else i)) H) ∨ rMin K xs H Q
theorem vra_min : VRA K p (rMinX K) minD := fun B H xs ds d Q hm r e k => by
  unfold minD at e
  split at e
  · obtain ⟨v, w, rfl, r1, r2⟩ := r.two_inv
    cases e
    rw [r1.isInt, r2.isInt]
    exact .inl ⟨_, _, rfl, k _ H (Same.refl H) (.int _)⟩
  · obtain ⟨v, rfl, r'⟩ := r.one_inv
    obtain ⟨m, em, rfl⟩ := Option.map_eq_some_iff.mp e
    obtain ⟨is, ei, em⟩ := Option.bind_eq_some_iff.mp em
    cases r' with
    | lst h nb q =>
      have ev := ints_rep q ei
      rw [ev] at h
      refine .inr ⟨_, is, rfl, .inl (.inl h), ?_, fun m' h1 h2 => ?_⟩
      · cases is with
        | nil => cases em
        | cons _ _ => simp
      · rw [minL_is em h1 h2]
        exact k _ H (Same.refl H) (.int _)
  · cases e
def sumD : List D → Option D
  | [.lst ds] => (intsD ds).map fun is => .int is.sum
  | [.tup ds] => (intsD ds).map fun is => .int is.sum
  | _ => none
end
section
variable {X : Cx}
theorem preSum_ints {its : List Value} {ns : List Int} (hi : IntsAre its ns) (val : Nat → Int) (hv : ∀ (i : Nat) (v : Value), its[i]? = some v → ∃ t, v = Value.int (val i) t) : ∀ n, n ≤ its.length → preSum val n = (ns.take n).sum
  | 0, _ => by simp [preSum]
  | n + 1, h => by
    have hn : n < ns.length := by rw [← hi.length]; exact h
    have ih := preSum_ints hi val hv n (Nat.le_of_succ_le h)
    obtain ⟨t, ht⟩ := hi.get n _ (List.getElem?_eq_getElem hn)
    obtain ⟨t', e⟩ := hv n _ ht
    have e2 : ns[n] = val n := (Value.int.inj e).1
    rw [List.take_succ, List.getElem?_eq_getElem hn, List.sum_append, ← ih, e2]
    simp [preSum]
/-- sum(t) of a tuple of ints -/
def rSumT (K : PySem.W.Frag) : List V → Hp → VK → Prop := fun vs H Q => ∃ (a : Addr) (ns : List Int), vs = [V.ref a] ∧ SqT K H a (ns.map V.int) ∧ Q (.int ns.sum) H
theorem cr_sumT (hc : X.calm = true) : CallR X (.builtin "sum") (rSumT X.K) := by
  intro pins s σ H vs us Q I r h
  obtain ⟨a, ns, rfl, hs, q⟩ := h
  obtain ⟨its, rv, ht, _⟩ := I.tuple hs
  rw [Vals.ref1 r]
  have hh : X.A.in1.in1.handled = none := I.ok.hd hc
  have hi := ints_of_vals rv
  have hv : ∀ (i : Nat) (v : Value), its.toArray[i]? = some v → ∃ t, v = Value.int (ns.getD i 0) t := fun i v e => by
    have e' : its[i]? = some v := by simpa using e
    have hl : i < ns.length := by
      have := (List.getElem?_eq_some_iff.mp e').1
      rw [← hi.length]
      exact this
    obtain ⟨t, h2⟩ := hi.get i _ (List.getElem?_eq_getElem hl)
    rw [e'] at h2
    cases h2
    exact ⟨t, by rw [List.getD_eq_getElem?_getD, List.getElem?_eq_getElem hl]; rfl⟩
  have hT : s.heap.IsTuple a its.toArray := ht
  have la : a < s.heap.objs.size := by obtain ⟨o, ho, _⟩ := hT; exact Heap.lt_size ho
  refine call_sum_walkG (wpAny_pyIter_tuple hT ?_)
  refine ⟨_, [s.heap.objs.size, a], [s.heap.objs.size], _, _, _, fun i => ns.getD i 0, rfl, Walks.tuple (A := X.A.in1) (I.ok.hd hc) _ a (Nat.ne_of_lt la) its.toArray, ⟨⟨_, Heap.get?_push_size _ rfl, rfl, rfl⟩, hT.push _⟩, fun c hcm => ?_, hv, fun h' tk t' hk => ?_⟩
  · show c < (s.heap.push _).objs.size
    rw [Heap.size_push]
    rcases List.mem_cons.mp hcm with rfl | hcm
    · exact Nat.lt_succ_self _
    · rw [List.mem_singleton.mp hcm]
      exact Nat.lt_succ_of_lt la
  · have e := preSum_ints hi _ (fun i v e => hv i v (by simpa using e)) its.length (Nat.le_refl _)
    rw [List.size_toArray, e, List.take_of_length_le (by rw [hi.length]; exact Nat.le_refl _)]
    exact ⟨.int _, H, I.kept fun b o e => hk b o (fun z => Nat.ne_of_lt (Heap.lt_size e) (List.mem_singleton.mp z)) (Heap.get?_push_of_some _ e), ⟨_, rfl⟩, q⟩
def rSumX (K : PySem.W.Frag) : List V → Hp → VK → Prop := fun xs H Q => rSum K xs H Q ∨ rSumT K xs H Q
theorem vra_sum {K : PySem.W.Frag} {p : Addr} : VRA K p (rSumX K) sumD := fun B H xs ds d Q hm r e k => by
  unfold sumD at e
  split at e
  · obtain ⟨v, rfl, r'⟩ := r.one_inv
    obtain ⟨is, ei, rfl⟩ := Option.map_eq_some_iff.mp e
    cases r' with
    | lst h nb q =>
      rw [ints_rep q ei] at h
      exact .inl ⟨_, is, rfl, .inl (.inl h), k _ H (Same.refl H) (.int _)⟩
  · obtain ⟨v, rfl, r'⟩ := r.one_inv
    obtain ⟨is, ei, rfl⟩ := Option.map_eq_some_iff.mp e
    cases r' with
    | tup h q =>
      have h := h.t
      rw [ints_rep q ei] at h
      exact .inr ⟨_, is, rfl, h, k _ H (Same.refl H) (.int _)⟩
  · cases e
end
end Ip

set_option maxHeartbeats 2000000
/-! IpS: the order of data, sorted() of tuples of any data that compare. -/
namespace Ip
open PySem L2 PyProof.Rows PySem.SeqAt Ob

mutual
/-- x < y, where any two parts compare -/
def ltP : PyData → PyData → Option Bool
  | .int i, .int j => some (decide (i < j))
  | .str x, .str y => some (decide (x.cps.toList < y.cps.toList))
  | .tuple xs, .tuple ys => lexP xs ys
  | _, _ => none
def lexP : List PyData → List PyData → Option Bool
  | [], [] => some false
  | [], _ :: _ => some true
  | _ :: _, [] => some false
  | x :: xs, y :: ys => (ltP x y).bind fun a => (lexP xs ys).map fun b => if PyData.eqv x y then b else a
end
/-- what lexAt is asked, place by place -/
def pairLt : List PyData → List PyData → Nat → Bool
  | x :: _, y :: _, 0 => (ltP x y).getD false
  | _ :: xs, _ :: ys, j + 1 => pairLt xs ys j
  | _, _, _ => false
theorem lexAt_shift {e e' r r' : Nat → Bool} {z : Bool} (he : ∀ j, e (j + 1) = e' j) (hr : ∀ j, r (j + 1) = r' j) : ∀ (k i : Nat), lexAt e r z (i + 1) k = lexAt e' r' z i k
  | 0, _ => rfl
  | k + 1, i => by rw [lexAt_succ, lexAt_succ, he, hr, lexAt_shift he hr k (i + 1)]
theorem lexP_at : ∀ (xs ys : List PyData) (b : Bool), lexP xs ys = some b → lexAt (pairEq xs ys) (pairLt xs ys) (decide (xs.length < ys.length)) 0 (min xs.length ys.length) = b
  | [], [], b, h => by
    cases h
    rfl
  | [], y :: ys, b, h => by
    cases h
    simp [lexAt_zero]
  | x :: xs, [], b, h => by
    cases h
    simp [lexAt_zero]
  | x :: xs, y :: ys, b, h => by
    simp only [lexP] at h
    obtain ⟨a, ea, h⟩ := Option.bind_eq_some_iff.mp h
    obtain ⟨c, ec, rfl⟩ := Option.map_eq_some_iff.mp h
    have ih := lexP_at xs ys c ec
    have e : min (x :: xs).length (y :: ys).length = min xs.length ys.length + 1 := by simp
    rw [e, lexAt_succ]
    have e2 : decide ((x :: xs).length < (y :: ys).length) = decide (xs.length < ys.length) := by simp
    rw [e2, lexAt_shift (e' := pairEq xs ys) (r' := pairLt xs ys) (fun j => rfl) (fun j => rfl), ih]
    show (if PyData.eqv x y = true then c else (ltP x y).getD false) = _
    rw [ea]
    rfl
mutual
theorem rc_lt : ∀ (d e : PyData) (b : Bool) (A : Around) (s : Shared) (v u : Value) (as bs : List Addr), ltP d e = some b → Reads s.heap v d as → Reads s.heap u e bs → d.canLay0 = true → e.canLay0 = true →
    A.units + min d.depth e.depth < cLine → RcOp .Lt A s v u b
  | .int i, .int j, b, A, s, _, _, _, _, h, ra, rb, _, _, _ => by
    cases ra
    cases rb
    simp only [ltP] at h
    cases h
    exact RcOp.lt_int _ _ _ _
  | .str x, .str y, b, A, s, _, _, _, _, h, ra, rb, _, _, _ => by
    cases ra
    cases rb
    simp only [ltP] at h
    cases h
    exact fun _ _ _ _ q => PyProof.Rows.lt_str q
  | .tuple xs, .tuple ys, b, A, s, _, _, _, _, h, ra, rb, ha, hb, hu => by
    simp only [ltP] at h
    cases ra with
    | @tuple a o vs n xs' as k1 k2 k3 k4 =>
      cases rb with
      | @tuple a2 o2 ws n2 ys' as2 j1 j2 j3 j4 =>
        have l1 := SeqAt.ReadsAll.length _ _ _ k4
        have l2 := SeqAt.ReadsAll.length _ _ _ j4
        rw [Array.length_toList] at l1 l2
        have hu' : A.in1.units + min (PyData.depthAll xs) (PyData.depthAll ys) < cLine := room_in hu
        have e := lexP_at xs ys b h
        rw [← l1, ← l2] at e
        rw [← e]
        refine RcOp.tuples_lt ⟨o, k1, k2, n, k3⟩ ⟨o2, j1, j2, n2, j3⟩ (room_here hu) (fun j h1 h2 => ?_) (fun j h1 h2 hne => ?_)
        · have q := eqAt_readsAll xs ys A.in1 s _ _ _ _ k4 j4 ha hb hu' j (by simpa using h1) (by simpa using h2)
          simpa using q
        · have q := rc_lts xs ys b A.in1 s _ _ _ _ h k4 j4 ha hb hu' j (by simpa using h1) (by simpa using h2)
          simpa using q
  | .none, _, _, _, _, _, _, _, _, h, _, _, _, _, _ => by simp [ltP] at h
  | .bool _, _, _, _, _, _, _, _, _, h, _, _, _, _, _ => by simp [ltP] at h
  | .list _, _, _, _, _, _, _, _, _, h, _, _, _, _, _ => by simp [ltP] at h
  | .dict _, _, _, _, _, _, _, _, _, h, _, _, _, _, _ => by simp [ltP] at h
  | .int _, .none, _, _, _, _, _, _, _, h, _, _, _, _, _ => by simp [ltP] at h
  | .int _, .bool _, _, _, _, _, _, _, _, h, _, _, _, _, _ => by simp [ltP] at h
  | .int _, .str _, _, _, _, _, _, _, _, h, _, _, _, _, _ => by simp [ltP] at h
  | .int _, .list _, _, _, _, _, _, _, _, h, _, _, _, _, _ => by simp [ltP] at h
  | .int _, .tuple _, _, _, _, _, _, _, _, h, _, _, _, _, _ => by simp [ltP] at h
  | .int _, .dict _, _, _, _, _, _, _, _, h, _, _, _, _, _ => by simp [ltP] at h
  | .str _, .none, _, _, _, _, _, _, _, h, _, _, _, _, _ => by simp [ltP] at h
  | .str _, .bool _, _, _, _, _, _, _, _, h, _, _, _, _, _ => by simp [ltP] at h
  | .str _, .int _, _, _, _, _, _, _, _, h, _, _, _, _, _ => by simp [ltP] at h
  | .str _, .list _, _, _, _, _, _, _, _, h, _, _, _, _, _ => by simp [ltP] at h
  | .str _, .tuple _, _, _, _, _, _, _, _, h, _, _, _, _, _ => by simp [ltP] at h
  | .str _, .dict _, _, _, _, _, _, _, _, h, _, _, _, _, _ => by simp [ltP] at h
  | .tuple _, .none, _, _, _, _, _, _, _, h, _, _, _, _, _ => by simp [ltP] at h
  | .tuple _, .bool _, _, _, _, _, _, _, _, h, _, _, _, _, _ => by simp [ltP] at h
  | .tuple _, .int _, _, _, _, _, _, _, _, h, _, _, _, _, _ => by simp [ltP] at h
  | .tuple _, .str _, _, _, _, _, _, _, _, h, _, _, _, _, _ => by simp [ltP] at h
  | .tuple _, .list _, _, _, _, _, _, _, _, h, _, _, _, _, _ => by simp [ltP] at h
  | .tuple _, .dict _, _, _, _, _, _, _, _, h, _, _, _, _, _ => by simp [ltP] at h
theorem rc_lts : ∀ (xs ys : List PyData) (b : Bool) (A : Around) (s : Shared) (vs ws : List Value) (as bs : List Addr), lexP xs ys = some b → ReadsAll s.heap vs xs as → ReadsAll s.heap ws ys bs → PyData.canLayAll0 xs = true → PyData.canLayAll0 ys = true →
    A.units + min (PyData.depthAll xs) (PyData.depthAll ys) < cLine → ∀ j (h1 : j < vs.length) (h2 : j < ws.length), RcOp .Lt A s vs[j] ws[j] (pairLt xs ys j)
  | [], _, _, _, _, _, _, _, _, _, ra, _, _, _, _, j, h1, _ => by cases ra; exact absurd h1 (Nat.not_lt_zero _)
  | _ :: _, [], _, _, _, _, _, _, _, _, _, rb, _, _, _, j, _, h2 => by cases rb; exact absurd h2 (Nat.not_lt_zero _)
  | x :: xs, y :: ys, b, A, s, _, _, _, _, h, ra, rb, ha, hb, hu, j, h1, h2 => by
    have ha' : x.canLay0 = true ∧ PyData.canLayAll0 xs = true := by simpa [PyData.canLayAll0] using ha
    have hb' : y.canLay0 = true ∧ PyData.canLayAll0 ys = true := by simpa [PyData.canLayAll0] using hb
    simp only [lexP] at h
    obtain ⟨a, ea, h⟩ := Option.bind_eq_some_iff.mp h
    obtain ⟨c, ec, _⟩ := Option.map_eq_some_iff.mp h
    cases ra with
    | cons r rs =>
      cases rb with
      | cons r' rs' =>
        cases j with
        | zero =>
          have q := rc_lt x y a A s _ _ _ _ ea r r' ha'.1 hb'.1 (room_head hu)
          show RcOp .Lt A s _ _ ((ltP x y).getD false)
          rw [ea]
          exact q
        | succ j => exact rc_lts xs ys c A s _ _ _ _ ec rs rs' ha'.2 hb'.2 (room_tail hu) j (Nat.lt_of_succ_lt_succ h1) (Nat.lt_of_succ_lt_succ h2)
end
/-! ### a total order that goes on with it -/
mutual
/-- a row of ints for data: x < y where these stand so -/
def encP : PyData → List Int
  | .int i => [1, i]
  | .str x => 2 :: (x.cps.toList.map fun (c : Nat) => (c : Int) + 1) ++ [0]
  | .tuple xs => 3 :: encs xs
  | _ => [0]
def encs : List PyData → List Int
  | [] => [0]
  | x :: xs => 1 :: (encP x ++ encs xs)
end
/-- x before y, whatever follows -/
def Bef (x y : List Int) : Prop := ∀ s t : List Int, x ++ s < y ++ t
theorem bef_cons {a : Int} {x y : List Int} (h : Bef x y) : Bef (a :: x) (a :: y) := fun s t => List.cons_lt_cons_iff.mpr (.inr ⟨rfl, h s t⟩)
theorem bef_head {a b : Int} {x y : List Int} (h : a < b) : Bef (a :: x) (b :: y) := fun s t => List.cons_lt_cons_iff.mpr (.inl h)
theorem bef_app {x y z w : List Int} (h : Bef x y) : Bef (x ++ z) (y ++ w) := fun s t => by
  rw [List.append_assoc, List.append_assoc]
  exact h _ _
theorem bef_same {x z w : List Int} (h : Bef z w) : Bef (x ++ z) (x ++ w) := by
  induction x with
  | nil => exact h
  | cons a x ih => exact bef_cons ih
/-- the three ways of two rows -/
def Tri (eq : Bool) (lt : Bool) (x y : List Int) : Prop := (eq = true ∧ lt = false ∧ x = y) ∨ (eq = false ∧ lt = true ∧ Bef x y) ∨ (eq = false ∧ lt = false ∧ Bef y x)
theorem tri_nats : ∀ (a b : List Nat), Tri (decide (a = b)) (decide (a < b)) ((a.map fun (c : Nat) => (c : Int) + 1) ++ [0]) ((b.map fun (c : Nat) => (c : Int) + 1) ++ [0])
  | [], [] => .inl ⟨by simp, by simp, rfl⟩
  | [], b :: bs => .inr (.inl ⟨by simp, by simp, bef_head (by show (0 : Int) < (b : Int) + 1; omega)⟩)
  | a :: as, [] => .inr (.inr ⟨by simp, by simp, bef_head (by show (0 : Int) < (a : Int) + 1; omega)⟩)
  | a :: as, b :: bs => by
    rcases Nat.lt_trichotomy a b with h | h | h
    · refine .inr (.inl ⟨?_, ?_, bef_head (by show (a : Int) + 1 < (b : Int) + 1; omega)⟩)
      · simp; omega
      · simp [List.cons_lt_cons_iff, h]
    · subst h
      rcases tri_nats as bs with ⟨h1, h2, h3⟩ | ⟨h1, h2, h3⟩ | ⟨h1, h2, h3⟩
      · simp only [decide_eq_true_eq, decide_eq_false_iff_not] at h1 h2
        exact .inl ⟨by simp [h1], by simp [List.cons_lt_cons_iff, h2], by simp only [List.map_cons, List.cons_append, h3]⟩
      · simp only [decide_eq_true_eq, decide_eq_false_iff_not] at h1 h2
        exact .inr (.inl ⟨by simp [h1], by simp [List.cons_lt_cons_iff, h2], bef_cons h3⟩)
      · simp only [decide_eq_true_eq, decide_eq_false_iff_not] at h1 h2
        exact .inr (.inr ⟨by simp [h1], by simp [List.cons_lt_cons_iff, h2], bef_cons h3⟩)
    · refine .inr (.inr ⟨?_, ?_, bef_head (by show (b : Int) + 1 < (a : Int) + 1; omega)⟩)
      · simp; omega
      · simp [List.cons_lt_cons_iff]; omega
mutual
theorem tri_enc : ∀ (d e : PyData) (b : Bool), ltP d e = some b → Tri (PyData.eqv d e) b (encP d) (encP e)
  | .int i, .int j, b, h => by
    simp only [ltP] at h
    cases h
    simp only [PyData.eqv, encP]
    rcases Int.lt_trichotomy i j with h | h | h
    · exact .inr (.inl ⟨by simp; omega, by simp [h], bef_cons (bef_head h)⟩)
    · subst h
      exact .inl ⟨by simp, by simp, rfl⟩
    · exact .inr (.inr ⟨by simp; omega, by simp; omega, bef_cons (bef_head h)⟩)
  | .str x, .str y, b, h => by
    simp only [ltP] at h
    cases h
    simp only [PyData.eqv, encP]
    have e : (x == y) = decide (x.cps.toList = y.cps.toList) := by
      obtain ⟨a⟩ := x
      obtain ⟨c⟩ := y
      by_cases q : a = c
      · subst q; simp
      · have q2 : a.toList ≠ c.toList := fun z => q (Array.toList_inj.mp z)
        simp [q, q2]
    rw [e]
    rcases tri_nats x.cps.toList y.cps.toList with ⟨h1, h2, h3⟩ | ⟨h1, h2, h3⟩ | ⟨h1, h2, h3⟩
    · exact .inl ⟨h1, h2, congrArg (fun z => (2 : Int) :: z) h3⟩
    · exact .inr (.inl ⟨h1, h2, bef_cons h3⟩)
    · exact .inr (.inr ⟨h1, h2, bef_cons h3⟩)
  | .tuple xs, .tuple ys, b, h => by
    simp only [ltP] at h
    simp only [PyData.eqv, encP]
    rcases tri_encs xs ys b h with ⟨h1, h2, h3⟩ | ⟨h1, h2, h3⟩ | ⟨h1, h2, h3⟩
    · exact .inl ⟨h1, h2, congrArg (fun z => (3 : Int) :: z) h3⟩
    · exact .inr (.inl ⟨h1, h2, bef_cons h3⟩)
    · exact .inr (.inr ⟨h1, h2, bef_cons h3⟩)
  | .none, _, _, h => by simp [ltP] at h
  | .bool _, _, _, h => by simp [ltP] at h
  | .list _, _, _, h => by simp [ltP] at h
  | .dict _, _, _, h => by simp [ltP] at h
  | .int _, .none, _, h => by simp [ltP] at h
  | .int _, .bool _, _, h => by simp [ltP] at h
  | .int _, .str _, _, h => by simp [ltP] at h
  | .int _, .list _, _, h => by simp [ltP] at h
  | .int _, .tuple _, _, h => by simp [ltP] at h
  | .int _, .dict _, _, h => by simp [ltP] at h
  | .str _, .none, _, h => by simp [ltP] at h
  | .str _, .bool _, _, h => by simp [ltP] at h
  | .str _, .int _, _, h => by simp [ltP] at h
  | .str _, .list _, _, h => by simp [ltP] at h
  | .str _, .tuple _, _, h => by simp [ltP] at h
  | .str _, .dict _, _, h => by simp [ltP] at h
  | .tuple _, .none, _, h => by simp [ltP] at h
  | .tuple _, .bool _, _, h => by simp [ltP] at h
  | .tuple _, .int _, _, h => by simp [ltP] at h
  | .tuple _, .str _, _, h => by simp [ltP] at h
  | .tuple _, .list _, _, h => by simp [ltP] at h
  | .tuple _, .dict _, _, h => by simp [ltP] at h
theorem tri_encs : ∀ (xs ys : List PyData) (b : Bool), lexP xs ys = some b → Tri (PyData.eqvAll xs ys) b (encs xs) (encs ys)
  | [], [], b, h => by
    cases h
    exact .inl ⟨by simp [PyData.eqvAll], rfl, rfl⟩
  | [], y :: ys, b, h => by
    cases h
    exact .inr (.inl ⟨by simp [PyData.eqvAll], rfl, bef_head (by decide)⟩)
  | x :: xs, [], b, h => by
    cases h
    exact .inr (.inr ⟨by simp [PyData.eqvAll], rfl, bef_head (by decide)⟩)
  | x :: xs, y :: ys, b, h => by
    simp only [lexP] at h
    obtain ⟨a, ea, h⟩ := Option.bind_eq_some_iff.mp h
    obtain ⟨c, ec, rfl⟩ := Option.map_eq_some_iff.mp h
    simp only [encs]
    rcases tri_enc x y a ea with ⟨h1, h2, h3⟩ | ⟨h1, h2, h3⟩ | ⟨h1, h2, h3⟩
    · rw [h1, h3, if_pos rfl]
      rcases tri_encs xs ys c ec with ⟨g1, g2, g3⟩ | ⟨g1, g2, g3⟩ | ⟨g1, g2, g3⟩
      · exact .inl ⟨by simp [PyData.eqvAll, h1, g1], g2, by rw [g3]⟩
      · exact .inr (.inl ⟨by simp [PyData.eqvAll, h1, g1], g2, bef_cons (bef_same g3)⟩)
      · exact .inr (.inr ⟨by simp [PyData.eqvAll, h1, g1], g2, bef_cons (bef_same g3)⟩)
    · rw [h1, if_neg (by decide)]
      exact .inr (.inl ⟨by simp [PyData.eqvAll, h1], h2, bef_cons (bef_app h3)⟩)
    · rw [h1, if_neg (by decide)]
      exact .inr (.inr ⟨by simp [PyData.eqvAll, h1], h2, bef_cons (bef_app h3)⟩)
end
def totB (d e : PyData) : Bool := decide (encP d < encP e)
theorem totB_of {d e : PyData} {b : Bool} (h : ltP d e = some b) : totB d e = b := by
  unfold totB
  rcases tri_enc d e b h with ⟨_, h2, h3⟩ | ⟨_, h2, h3⟩ | ⟨_, h2, h3⟩
  · rw [h3, h2]
    exact decide_eq_false (List.lt_irrefl _)
  · rw [h2]
    have q := h3 [] []
    rw [List.append_nil, List.append_nil] at q
    exact decide_eq_true q
  · rw [h2]
    have q := h3 [] []
    rw [List.append_nil, List.append_nil] at q
    exact decide_eq_false (List.not_lt.mpr (List.le_of_lt q))
theorem swo_tot : SrtO.Swo totB := by
  refine ⟨fun x y h => ?_, fun x y z h1 h2 => ?_⟩
  · have h := of_decide_eq_true h
    exact decide_eq_false (List.not_lt.mpr (List.le_of_lt h))
  · have h1 := of_decide_eq_false h1
    have h2 := of_decide_eq_false h2
    exact decide_eq_false (List.not_lt.mpr (List.le_trans (List.not_lt.mp h1) (List.not_lt.mp h2)))
end Ip

set_option maxHeartbeats 2000000
/-! IpT: sorted() of a list of tuples of data. -/
namespace Ip
open PySem L2 PyProof.Rows PySem.SeqAt Ob PySem.W

/-! ### a sorted list, the plain way -/
def insP (y : PyData) : List PyData → List PyData
  | [] => [y]
  | x :: xs => if totB y x = true then y :: x :: xs else x :: insP y xs
def sortP (l : List PyData) : List PyData := l.foldl (fun acc y => insP y acc) []
theorem insP_split (y : PyData) : ∀ (S : List PyData), SrtO.Srtd totB S → ∃ M N, S = M ++ N ∧ insP y S = M ++ y :: N ∧ (∀ x ∈ M, totB y x = false) ∧ ∀ x ∈ N, totB y x = true
  | [], _ => ⟨[], [], rfl, rfl, fun _ h => by simp at h, fun _ h => by simp at h⟩
  | x :: xs, h => by
    unfold insP
    by_cases e : totB y x = true
    · rw [if_pos e]
      exact ⟨[], x :: xs, rfl, rfl, fun _ h => by simp at h, fun z hz => swo_tot.lt_all h e z hz⟩
    · rw [if_neg e]
      obtain ⟨M, N, e1, e2, h1, h2⟩ := insP_split y xs (List.pairwise_cons.mp h).2
      refine ⟨x :: M, N, by rw [e1]; rfl, by rw [e2]; rfl, fun z hz => ?_, h2⟩
      rcases List.mem_cons.mp hz with q | q
      · rw [q]
        simpa using e
      · exact h1 z q
theorem sortP_ok (l : List PyData) : SrtO.Srtd totB (sortP l) ∧ SrtO.Stb totB (sortP l) l := by
  have key : ∀ (l acc done : List PyData), SrtO.Srtd totB acc → SrtO.Stb totB acc done → SrtO.Srtd totB (l.foldl (fun acc y => insP y acc) acc) ∧ SrtO.Stb totB (l.foldl (fun acc y => insP y acc) acc) (done ++ l) := by
    intro l
    induction l with
    | nil => intro acc done h1 h2; rw [List.append_nil]; exact ⟨h1, h2⟩
    | cons y l ih =>
      intro acc done h1 h2
      obtain ⟨M, N, e1, e2, g1, g2⟩ := insP_split y acc h1
      rw [List.foldl_cons]
      have q := ih (insP y acc) (done ++ [y]) (by rw [e2]; exact SrtO.ins_srtd swo_tot (e1 ▸ h1) g1 g2) (by rw [e2]; exact SrtO.ins_stb swo_tot g2 (e1 ▸ h2))
      rw [List.append_assoc] at q
      exact q
  exact key l [] [] List.Pairwise.nil (SrtO.Stb.refl _)

/-! ### comparing in a sort -/
section
variable {prog : Program} {w : World} {A : Around} {E : Value → Shared → Prop} {s : Shared}
theorem one_lt {c r : Bool} {d e : PyData} {v u : Value} {as bs : List Addr} {Q : Bool → Shared → Prop} (h : ltP d e = some r) (ra : Reads s.heap v d as) (rb : Reads s.heap u e bs) (ha : d.canLay0 = true) (hb : e.canLay0 = true)
    (hu : A.units + min d.depth e.depth < cLine) (q : Q r s) : wpAny (model prog w) A (oneLt' c v u) Q E s := by
  cases c with
  | false => exact kat_one _ _ (rc_lt d e r A s v u as bs h ra rb ha hb hu prog w E (PySem.W.BoolBack Q) q)
  | true =>
    cases d <;> cases e <;> simp only [ltP] at h <;> first
      | cases h; done
      | skip
    · cases ra; cases rb; cases h
      exact oneLt_int q
    · cases ra; cases rb; cases h
      exact oneLt_str q
    · rename_i xs ys
      cases ra with
      | @tuple a o vs n xs' as k1 k2 k3 k4 =>
        cases rb with
        | @tuple a2 o2 ws n2 ys' as2 j1 j2 j3 j4 =>
          have l1 := SeqAt.ReadsAll.length _ _ _ k4
          have l2 := SeqAt.ReadsAll.length _ _ _ j4
          rw [Array.length_toList] at l1 l2
          have hu' : A.in1.units + min (PyData.depthAll xs) (PyData.depthAll ys) < cLine := room_in hu
          have e := lexP_at xs ys r h
          rw [← l1, ← l2] at e
          obtain ⟨c1, dd, data, sl⟩ := o
          obtain ⟨c2, dd2, data2, sl2⟩ := o2
          simp only at k2 k3 j2 j3
          subst k2 k3 j2 j3
          rw [oneLt'_eq]
          simp only [if_true]
          refine wpAny_bind (wpAny_cRoomFor (room_here hu) ?_)
          refine wpAny_bind (wpAny_callSpecialIfBound?_slot (T := "tuple") ⟨_, k1, rfl⟩ F.slot_tuple_lt (call_meets F.slot_tuple_lt ⟨_, k1, rfl⟩ F.entry_tuple_lt (F.args_tuple_lt_2 _ _)
            (tuple_ltAt a a2 vs ws n n2 dd dd2 sl sl2 (pairEq xs ys) (pairLt xs ys)) ⟨k1, j1, fun j h1 h2 => ?_, fun j h1 h2 hne => ?_, ?_⟩))
          · have q := eqAt_readsAll xs ys A.in1 s _ _ _ _ k4 j4 ha hb hu' j (by simpa using h1) (by simpa using h2)
            simpa using q
          · have q := rc_lts xs ys r A.in1 s _ _ _ _ h k4 j4 ha hb hu' j (by simpa using h1) (by simpa using h2)
            simpa using q
          · rw [e]
            exact wpAny_truthy_bool q
theorem kat_data {b fin : Bool} : ∀ (xs ys : List PyData) (vs ws : List Value) (as bs : List Addr) (r : Bool) (i : Nat) {Q : Bool → Shared → Prop}, lexP xs ys = some r → ReadsAll s.heap vs xs as → ReadsAll s.heap ws ys bs → PyData.canLayAll0 xs = true → PyData.canLayAll0 ys = true →
    A.units + min (PyData.depthAll xs) (PyData.depthAll ys) < cLine → fin = decide (xs.length < ys.length) → Q r s → KatLex prog w A b fin Q (vs.zip ws) i s
  | [], [], _, _, _, _, r, i, Q, h, ra, rb, _, _, _, hf, q => by
    cases ra
    cases rb
    cases h
    subst hf
    exact q
  | [], y :: ys, _, _, _, _, r, i, Q, h, ra, rb, _, _, _, hf, q => by
    cases ra
    cases rb
    cases h
    subst hf
    exact (by simpa using q : Q (decide (0 < ys.length + 1)) s)
  | x :: xs, [], _, _, _, _, r, i, Q, h, ra, rb, _, _, _, hf, q => by
    cases ra
    cases rb
    cases h
    subst hf
    exact (by simpa using q : Q (decide (xs.length + 1 < 0)) s)
  | x :: xs, y :: ys, _, _, _, _, r, i, Q, h, ra, rb, ha, hb, hu, hf, q => by
    have ha' : x.canLay0 = true ∧ PyData.canLayAll0 xs = true := by simpa [PyData.canLayAll0] using ha
    have hb' : y.canLay0 = true ∧ PyData.canLayAll0 ys = true := by simpa [PyData.canLayAll0] using hb
    simp only [lexP] at h
    obtain ⟨a, ea, h⟩ := Option.bind_eq_some_iff.mp h
    obtain ⟨c, ec, rfl⟩ := Option.map_eq_some_iff.mp h
    cases ra with
    | cons r1 rs =>
      cases rb with
      | cons r2 rs' =>
        refine kat_cons (eqAt_reads x y A s _ _ _ _ r1 r2 ha'.1 hb'.1 (room_head hu) prog w _ _ ?_)
        refine kat_go (fun e => ?_) (fun e => ?_)
        · rw [e, if_pos rfl] at q
          exact kat_yes (kat_data xs ys _ _ _ _ c (i + 1) ec rs rs' ha'.2 hb'.2 (room_tail hu) (by rw [hf]; simp) q)
        · rw [e, if_neg (by decide)] at q
          exact kat_no (one_lt ea r1 r2 ha'.1 hb'.1 (room_head hu) q)
end
/-! ### the kind of a sort -/
def isTupP : PyData → Bool
  | .tuple _ => true
  | _ => false
def tyP : PyData → Option String
  | .int _ => some "int"
  | .str _ => some "str"
  | .tuple _ => some "tuple"
  | _ => none
def hdP : PyData → Option PyData
  | .tuple (x :: _) => some x
  | _ => none
/-- tuples, the first one empty; or tuples, none empty, whose firsts are of one type -/
def kindP (ds : List PyData) : Bool := ds.all isTupP && (match ds with
  | [] => true
  | .tuple [] :: _ => true
  | d :: _ => ds.all fun e => match hdP d, hdP e with
    | some x, some y => (tyP x).isSome && decide (tyP x = tyP y)
    | _, _ => false)
theorem opts_of {prog : Program} {w : World} {A : Around} {E : Value → Shared → Prop} {s : Shared} : ∀ (ds : List PyData) (vs : List Value) (as : List Addr) {Q : List (Option Value) → Shared → Prop}, ReadsAll s.heap vs ds as → ds.all isTupP = true →
    (∀ os : List (Option Value), (∀ rest, ds = .tuple [] :: rest → ∃ os', os = none :: os') → Q os s) → wpAny (model prog w) A (vs.mapM firstOfTuple') Q E s
  | [], _, _, Q, r, _, h => by
    cases r
    rw [List.mapM_nil]
    exact wpAny_pure (h [] fun _ z => by cases z)
  | d :: ds, _, _, Q, r, ht, h => by
    rw [List.all_cons, Bool.and_eq_true] at ht
    obtain ⟨ht1, ht2⟩ := ht
    cases r with
    | cons r1 r2 =>
      cases r1 <;> first
        | cases ht1; done
        | skip
      rename_i h1 h2 h3 h4
      rw [List.mapM_cons]
      refine wpAny_bind ?_
      rw [kas_first_eq]
      rename_i a o xs n ys
      refine wpAny_bind (Looks.here (show Looks _ s.heap (typeOf (.ref a)) o.cls from (Looks.ld h1).andThen .now) ?_)
      rw [h2, if_neg (by first | decide | simp)]
      refine wpAny_bind (listItems_at h1 h3 (wpAny_pure ?_))
      refine wpAny_bind (opts_of ds _ _ (Q := fun bs s' => wpAny (model prog w) A (pure (_ :: bs)) Q E s') r2 ht2 fun os _ => wpAny_pure (h _ fun rest e => ?_))
      have e1 : ys = [] := by
        have := (List.cons.inj e).1
        exact PyData.tuple.inj this
      subst e1
      have e2 : xs = #[] := by
        cases h4z : xs.toList with
        | nil => exact Array.toList_eq_nil_iff.mp h4z
        | cons _ _ => rw [h4z] at h4; cases h4
      subst e2
      exact ⟨os, rfl⟩
theorem tups_of {h : Heap} : ∀ (ds : List PyData) (vs : List Value) (as : List Addr), ReadsAll h vs ds as → (∀ e ∈ ds, (hdP e).isSome = true) → ∃ fs : List Value, KatTups h vs fs ∧ fs.length = ds.length ∧
    ∀ f ∈ fs, ∃ e x bs, e ∈ ds ∧ hdP e = some x ∧ Reads h f x bs
  | [], _, _, r, _ => by
    cases r
    exact ⟨[], .nil, rfl, fun _ h => by simp at h⟩
  | d :: ds, _, _, r, hh => by
    cases r with
    | cons r1 r2 =>
      obtain ⟨fs, t, hl, hf⟩ := tups_of ds _ _ r2 fun e he => hh e (List.mem_cons_of_mem _ he)
      have h0 := hh d List.mem_cons_self
      cases r1 <;> simp [hdP] at h0
      rename_i a o xs n ys k1 k2 k3 k4
      cases ys with
      | nil => simp at h0
      | cons y ys =>
        obtain ⟨l⟩ := xs
        cases k4 with
        | cons g1 g2 =>
          refine ⟨_ :: fs, .cons k1 k2 k3 (by rfl) t, by simp [hl], fun f hm => ?_⟩
          rcases List.mem_cons.mp hm with z | z
          · subst z
            exact ⟨_, y, _, List.mem_cons_self, rfl, g1⟩
          · obtain ⟨e, x, bs, h1, h2, h3⟩ := hf f z
            exact ⟨e, x, bs, List.mem_cons_of_mem _ h1, h2, h3⟩
theorem looks_ty {M : Model} {h : Heap} {f : Value} {x : PyData} {bs : List Addr} {T : String} (r : Reads h f x bs) (ht : tyP x = some T) : Looks M h (typeOf f) (.type T) := by
  cases r <;> simp only [tyP] at ht <;> first
    | cases ht; done
    | skip
  · cases ht; exact Looks.now
  · cases ht; exact Looks.now
  · cases ht
    rename_i a o xs n ys h1 h2 h3 h4
    rw [← h2]
    exact (Looks.ld h1).andThen .now
theorem kind_data {prog : Program} {w : World} {A : Around} {s : Shared} {ds : List PyData} {vs : List Value} {as : List Addr} (r : ReadsAll s.heap vs ds as) (h2 : 2 ≤ vs.length) (hk : kindP ds = true) :
    ∃ κ, (κ = oneType' ∨ ∃ b, κ = tuples' b) ∧ ∀ (Q : SortKind → Shared → Prop) (E : Value → Shared → Prop), Q κ s → wpAny (model prog w) A (keyKind' vs.toArray) Q E s := by
  unfold kindP at hk
  rw [Bool.and_eq_true] at hk
  obtain ⟨hk1, hk2⟩ := hk
  have hlen := SeqAt.ReadsAll.length _ _ _ r
  split at hk2
  · rw [List.length_nil] at hlen
    omega
  · rename_i rest
    refine ⟨oneType', .inl rfl, fun Q E q => ?_⟩
    rw [kat_kind_eq, List.mapM_toArray, map_eq_pure_bind]
    refine wpAny_bind (wpAny_bind (opts_of _ vs _ r hk1 fun os ho => wpAny_pure ?_))
    obtain ⟨os', rfl⟩ := ho rest rfl
    rw [if_neg (by simp), if_neg (by simp)]
    rw [oneTypeOnly'_eq, List.mapM_toArray, map_eq_pure_bind]
    refine wpAny_bind (wpAny_bind (wpAny_bind (kas_mapM (r := Value.type "tuple") _ (fun v hv Q' hq => ?_) (wpAny_pure ?_))))
    · obtain ⟨i, hi, e⟩ := List.getElem_of_mem hv
      obtain ⟨d, bs, g1, hd, _⟩ : ∃ d bs, Reads s.heap v d bs ∧ d ∈ (PyData.tuple [] :: rest) ∧ True := by
        have key : ∀ (ds : List PyData) (vs : List Value) (as : List Addr), ReadsAll s.heap vs ds as → v ∈ vs → ∃ d bs, Reads s.heap v d bs ∧ d ∈ ds ∧ True := by
          intro ds
          induction ds with
          | nil => intro vs as r hv; cases r; cases hv
          | cons d ds ih =>
            intro vs as r hv
            cases r with
            | cons r1 r2 =>
              rcases List.mem_cons.mp hv with z | z
              · subst z
                exact ⟨d, _, r1, List.mem_cons_self, trivial⟩
              · obtain ⟨d', bs, g1, g2, _⟩ := ih _ _ r2 z
                exact ⟨d', bs, g1, List.mem_cons_of_mem _ g2, trivial⟩
        exact key _ _ _ r hv
      have ht := List.all_eq_true.mp hk1 d hd
      exact (looks_ty g1 (T := "tuple") (by cases d <;> simp [isTupP] at ht; rfl)).here hq
    · have hall : ((List.map (fun _ => Value.type "tuple") vs).toArray.all fun x => x == Value.type "tuple") = true := by
        simp only [List.all_toArray, List.all_map, List.all_eq_true]
        intro _ _
        show (Value.type "tuple" == Value.type "tuple") = true
        rfl
      have h0 : (List.map (fun _ => Value.type "tuple") vs).toArray[0]? = some (Value.type "tuple") := by
        cases vs with
        | nil => simp at h2
        | cons _ _ => simp
      rw [h0]
      simp only [hall, if_true]
      exact wpAny_pure (wpAny_pure q)
  · rename_i d rest hne
    have hx : ∃ x, hdP d = some x := by
      have q := List.all_eq_true.mp hk2 d List.mem_cons_self
      cases e : hdP d with
      | none => rw [e] at q; cases q
      | some x => exact ⟨x, rfl⟩
    obtain ⟨x, hx⟩ := hx
    have hall : ∀ e ∈ d :: rest, ∃ y, hdP e = some y ∧ (tyP x).isSome = true ∧ tyP x = tyP y := fun e he => by
      have q := List.all_eq_true.mp hk2 e he
      rw [hx] at q
      cases e' : hdP e with
      | none => rw [e'] at q; cases q
      | some y =>
        rw [e'] at q
        simp only [Bool.and_eq_true, decide_eq_true_eq] at q
        exact ⟨y, rfl, q.1, q.2⟩
    obtain ⟨T, hT⟩ : ∃ T, tyP x = some T := by
      obtain ⟨_, _, h, _⟩ := hall d List.mem_cons_self
      exact Option.isSome_iff_exists.mp h
    obtain ⟨fs, t, hl, hf⟩ := tups_of _ vs _ r fun e he => by
      obtain ⟨y, e1, _⟩ := hall e he
      rw [e1]
      rfl
    refine ⟨tuples' (Value.type T != Value.type "tuple"), .inr ⟨_, rfl⟩, fun Q E q => ?_⟩
    refine kat_kind (T := .type T) t (by rw [hl]; simp) (fun f hm => ?_) (by simp) q
    obtain ⟨e, y, bs, h1, h3, h4⟩ := hf f hm
    obtain ⟨y', e1, _, e2⟩ := hall e h1
    rw [h3] at e1
    cases e1
    exact looks_ty h4 (e2 ▸ hT)
/-- the data are sorted: the list behind -/
def cmpP (ds : List PyData) : Bool := ds.all fun d => ds.all fun e => (ltP d e).isSome
theorem reads_mem {h : Heap} : ∀ {ds : List PyData} {vs : List Value} {as : List Addr}, ReadsAll h vs ds as → ∀ v ∈ vs, ∃ d bs, d ∈ ds ∧ Reads h v d bs ∧ d.depth ≤ PyData.depthAll ds
  | _, _, _, .nil, _, hv => by cases hv
  | d :: ds, _, _, .cons r1 r2, v, hv => by
    rcases List.mem_cons.mp hv with z | z
    · subst z
      exact ⟨d, _, List.mem_cons_self, r1, Nat.le_max_left _ _⟩
    · obtain ⟨d', bs, g1, g2, g3⟩ := reads_mem r2 v z
      exact ⟨d', bs, List.mem_cons_of_mem _ g1, g2, Nat.le_trans g3 (Nat.le_max_right _ _)⟩
theorem lay_mem : ∀ {ds : List PyData}, PyData.canLayAll0 ds = true → ∀ d ∈ ds, d.canLay0 = true
  | [], _, _, h => by cases h
  | x :: xs, hc, d, h => by
    have q : x.canLay0 = true ∧ PyData.canLayAll0 xs = true := by simpa [PyData.canLayAll0] using hc
    rcases List.mem_cons.mp h with z | z
    · rw [z]; exact q.1
    · exact lay_mem q.2 d z
theorem sortable_data {prog : Program} {w : World} {A : Around} {s : Shared} {a : Addr} {h0 : Heap} {ds : List PyData} {vs : List Value} {as : List Addr} (r : ReadsAll h0 vs ds as) (hc : PyData.canLayAll0 ds = true) (hk : kindP ds = true) (hm : cmpP ds = true) (h2 : 2 ≤ vs.length)
    (hu : A.units + PyData.depthAll ds < cLine) (keep : ∀ h' : Heap, (∀ b o, b ≠ a → s.heap.get? b = some o → h'.get? b = some o) → ∀ b o, h0.get? b = some o → h'.get? b = some o) :
    SrtO.SortableO prog w A s a vs fun v u => totB (readOf h0 v) (readOf h0 u) := by
  intro h' hkp
  have k := keep h' hkp
  have r' : ReadsAll h' vs ds as := ReadsAll.keeps k r
  obtain ⟨κ, hκ, hkd⟩ := kind_data (prog := prog) (w := w) (A := A) (s := { s with heap := h' }) r' h2 hk
  refine ⟨κ, hkd, fun p q hp hq => ?_⟩
  have key : ∀ v ∈ vs, ∃ d bs, d ∈ ds ∧ Reads h' v d bs ∧ readOf h0 v = d ∧ d.depth ≤ PyData.depthAll ds := fun v hv => by
    obtain ⟨d, bs, g1, g2, g3⟩ := reads_mem r v hv
    exact ⟨d, bs, g1, Reads.keeps k g2, readOf_eq (lay_mem hc d g1) g2, g3⟩
  obtain ⟨d, bs, g1, g2, g3, g4⟩ := key _ hp
  obtain ⟨e, cs, f1, f2, f3, f4⟩ := key _ hq
  have hl : (ltP d e).isSome = true := List.all_eq_true.mp (List.all_eq_true.mp hm d g1) e f1
  obtain ⟨b, hb⟩ := Option.isSome_iff_exists.mp hl
  have hlt : SrtO.lt2 (fun v u => totB (readOf h0 v) (readOf h0 u)) p q = b := by
    show totB (readOf h0 p.1) (readOf h0 q.1) = b
    rw [g3, f3]
    exact totB_of hb
  have room : A.units + min d.depth e.depth < cLine := Nat.lt_of_le_of_lt (Nat.add_le_add_left (Nat.le_trans (Nat.min_le_left _ _) g4) _) hu
  rcases hκ with rfl | ⟨c, rfl⟩
  · rw [keyLt'_oneType]
    exact one_lt (s := { s with heap := h' }) hb g2 f2 (lay_mem hc d g1) (lay_mem hc e f1) room ⟨rfl, hlt.symm⟩
  · have ht : isTupP d = true ∧ isTupP e = true := by
      unfold kindP at hk
      rw [Bool.and_eq_true] at hk
      exact ⟨List.all_eq_true.mp hk.1 d g1, List.all_eq_true.mp hk.1 e f1⟩
    have ld := lay_mem hc d g1
    have le := lay_mem hc e f1
    obtain ⟨p1, p2⟩ := p
    obtain ⟨q1, q2⟩ := q
    dsimp only at *
    cases g2 <;> simp only [isTupP] at ht <;> first
      | (cases ht.1; done)
      | skip
    cases f2 <;> simp only [isTupP] at ht <;> first
      | (cases ht.2; done)
      | skip
    rename_i k1 k2 k3 k4 _ _ _ _ _ j1 j2 j3 j4
    simp only [ltP] at hb
    have l1 := SeqAt.ReadsAll.length _ _ _ k4
    have l2 := SeqAt.ReadsAll.length _ _ _ j4
    rw [Array.length_toList] at l1 l2
    refine kat_lt (s := { s with heap := h' }) k1 k3 j1 j3 ?_
    rw [l1, l2]
    exact kat_data (s := { s with heap := h' }) _ _ _ _ _ _ b 0 hb k4 j4 ld le (by have := room_in room; omega) rfl ⟨rfl, hlt.symm⟩
/-! ### the rule -/
theorem stb_symm {α : Type} {lt : α → α → Bool} {l m : List α} (h : SrtO.Stb lt l m) : SrtO.Stb lt m l := ⟨h.perm.symm, fun x => (h.cls x).symm⟩
def rSortD (K : PySem.W.Frag) : List V → Hp → VK → Prop := fun vs H Q => ∃ (a : Addr) (ys : List V) (ds : List PyData), vs = [.ref a] ∧ SqL K H a ys ∧ DpAll K H ys ds ∧ PyData.canLayAll0 ds = true ∧ kindP ds = true ∧ cmpP ds = true ∧ PyData.depthAll ds ≤ 64 ∧ (∀ y ∈ ys, ∃ b, y = V.ref b) ∧
  ∀ (zs : List V) (q : Addr), H q = none → zs.length = (sortP ds).length → (∀ (i : Nat) z, zs[i]? = some z → ∃ (j : Nat) (d : PyData), ys[j]? = some z ∧ ds[j]? = some d ∧ (sortP ds)[i]? = some d) → Q (.ref q) (upd H q (.lst zs))
theorem cr_sortD {X : Cx} (hu : X.A.units + 200 < cLine) : CallR X (.builtin "sorted") (rSortD X.K) := by
  intro pins s σ H vs us Q I r h
  obtain ⟨a, ys, ds, rfl, hs, hd, hc, hk, hm, hdep, hrf, q⟩ := h
  obtain ⟨its, rv, hl, hz⟩ := I.list hs
  rw [Vals.ref1 r]
  obtain ⟨as, ra⟩ := Dp.readsAll I ds ys its hd rv
  obtain ⟨e1, e2⟩ := bkV_refs rv hrf
  have hmap := SeqAt.readsAll_map ds its as hc ra
  have O : SrtO.Swo fun v u => totB (readOf s.heap v) (readOf s.heap u) := ⟨fun x y => swo_tot.asym _ _, fun x y z => swo_tot.tr _ _ _⟩
  refine SrtO.sorted_ord O hl.isList (by rw [← rv.length]; exact hz) (fun h2 h₁ a' ha' kk => ?_) fun out h1 h2 => ?_
  · exact sortable_data (s := { s with heap := h₁ }) ra hc hk hm h2 (by show X.A.units + 1 + 1 + _ < _; omega) fun h' hkp b o e => hkp b o (kk b o e).1 (kk b o e).2
  · have s1 : SrtO.Srtd totB (out.map (readOf s.heap)) := SrtO.srtd_map h1
    have s2 : SrtO.Stb totB (out.map (readOf s.heap)) ds := by
      have z := SrtO.Stb.map swo_tot (readOf s.heap) h2
      rw [hmap] at z
      exact z
    obtain ⟨g1, g2⟩ := sortP_ok ds
    have eo : out.map (readOf s.heap) = sortP ds := SrtO.stb_uniq swo_tot s1 g1 (s2.trans (stb_symm g2))
    obtain ⟨ep, he'⟩ := PyProof.Rows.sortedAll_at s.heap its out.toArray
    have hlen : (out.map bkV).length ≤ sizeLine := by
      rw [List.length_map, h2.perm.length_eq, ← rv.length]
      exact hz
    have hro : ∀ u ∈ out, ∃ b, u = Value.ref b := fun u hm => e2 u (h2.perm.mem_iff.mp hm)
    refine ⟨.ref _, upd H (s.heap.objs.size + 1) (.lst (out.map bkV)), I.laid (t' := s.toks) (fun _ _ => PyProof.Rows.sortedAll_old) (Nat.le_succ _) ⟨hlen, out, ep, bkV_vals hro, he'⟩, rfl, q _ _ (I.hok.fresh (Nat.le_succ _)) ?_ fun i z hz' => ?_⟩
    · rw [List.length_map, ← eo, List.length_map]
    · rw [List.getElem?_map] at hz'
      obtain ⟨u, hu', rfl⟩ := Option.map_eq_some_iff.mp hz'
      have hmem : u ∈ its := h2.perm.mem_iff.mp (List.mem_of_getElem? hu')
      obtain ⟨j, hj, ej⟩ := List.getElem_of_mem hmem
      refine ⟨j, readOf s.heap u, ?_, ?_, ?_⟩
      · rw [e1, List.getElem?_map, List.getElem?_eq_getElem hj, ej]
        rfl
      · rw [← hmap, List.getElem?_map, List.getElem?_eq_getElem hj, ej]
        rfl
      · rw [← eo, List.getElem?_map, hu']
        rfl
end Ip

set_option maxHeartbeats 1000000
/-! IpU: calls that give new lists and dicts; methods. -/
namespace Ip
open PySem L2 PyProof.Rows

section
variable {K : PySem.W.Frag} {p : Addr} {B0 : Addr → Prop} {oa : Oa} {env : En} {σ : L2.St} {H H' : Hp} {S : List D}
/-- one more place to shun: a new one, written, all else kept -/
theorem FI.shunS (f : FI K p B0 oa env σ H S) {a : Addr} (hn : H a = none) (hs : Same H H') (hm : ∃ o, H' a = some o ∧ MutO o) : FI K p (fun b => B0 b ∨ b = a) oa env σ H' S := by
  have hb : ∀ b, Bf (fun b => B0 b ∨ b = a) p oa b → Bf B0 p oa b ∨ H b = none := fun b h => by
    rcases h with (h | h) | h | h
    · exact .inl (.inl h)
    · exact .inr (h ▸ hn)
    · exact .inl (.inr (.inl h))
    · exact .inl (.inr (.inr h))
  have mv : ∀ {v : V} {d : D}, Rep K p (Bf B0 p oa) H v d → Rep K p (Bf (fun b => B0 b ∨ b = a) p oa) H' v d := fun r => r.move (fun b o _ q => hs b o q) hb f.mut
  have mvs : ∀ {vs : List V} {ds : List D}, Reps K p (Bf B0 p oa) H vs ds → Reps K p (Bf (fun b => B0 b ∨ b = a) p oa) H' vs ds := fun r => r.mono_of fun _ _ q => mv q
  refine ⟨f.len, fun i d e => ?_, fun i b e => ?_, f.has, f.inj, fun i b e => ?_, fun b h => ?_, ?_⟩
  · obtain ⟨v, e1, r⟩ := f.sh i d e
    exact ⟨v, e1, mv r⟩
  · obtain ⟨e1, x, e2, q⟩ := f.ow i b e
    refine ⟨e1, x, e2, ?_⟩
    cases q with
    | own e3 r => exact .own (hs _ _ e3) (mvs r)
    | ownD e3 n r => exact .ownD (hs _ _ e3) n (mvs r)
  · refine ⟨fun h => ?_, (f.dis i b e).2⟩
    rcases h with h | h
    · exact (f.dis i b e).1 h
    · obtain ⟨_, x, _, q⟩ := f.ow i b e
      obtain ⟨u, e3, _⟩ := q.mut
      rw [h, hn] at e3
      cases e3
  · rcases h with h | h
    · obtain ⟨u, e, m⟩ := f.b0 b h
      exact ⟨u, hs _ _ e, m⟩
    · rw [h]
      exact hm
  · obtain ⟨vs, e1, r⟩ := f.pool
    exact ⟨vs, hs _ _ e1, mvs r⟩
end

/-- a call that gives a new list -/
def VLA (K : PySem.W.Frag) (p : Addr) (r : List V → Hp → VK → Prop) (g : List D → Option (List D)) : Prop := ∀ (B : Addr → Prop) (H : Hp) (xs : List V) (ds es : List D) (Q : VK), HM B H → Reps K p B H xs ds → g ds = some es →
  (∀ a vs H', Same H H' → H a = none → H' a = some (.lst vs) → Reps K p (fun b => B b ∨ b = a) H' vs es → Q (.ref a) H') → r xs H Q
/-- a call that gives a new dict -/
def VDA (K : PySem.W.Frag) (p : Addr) (r : List V → Hp → VK → Prop) (g : List D → Option (List Key × List D)) : Prop := ∀ (B : Addr → Prop) (H : Hp) (xs : List V) (ds : List D) (es : List Key × List D) (Q : VK), HM B H → Reps K p B H xs ds → g ds = some es →
  (∀ a kvs H', Same H H' → H a = none → H' a = some (.dK kvs) → kvs.map (·.1) = es.1 → (kvs.map (·.1)).Nodup → Reps K p (fun b => B b ∨ b = a) H' (kvs.map (·.2)) es.2 → Q (.ref a) H') → r xs H Q
section
variable {K : PySem.W.Frag} {p : Addr}
theorem VLA.vra {r : List V → Hp → VK → Prop} {g : List D → Option (List D)} (h : VLA K p r g) : VRA K p r fun ds => (g ds).map .lst := fun B H xs ds d Q hm rr e k => by
  obtain ⟨es, e1, rfl⟩ := Option.map_eq_some_iff.mp e
  refine h B H xs ds es Q hm rr e1 fun a vs H' s hn ha q => k _ H' s ?_
  exact .lst ha (hm.new hn) (q.less fun _ z => .inl z)
theorem VDA.vra {r : List V → Hp → VK → Prop} {g : List D → Option (List Key × List D)} (h : VDA K p r g) : VRA K p r fun ds => (g ds).map fun e => .dic e.1 e.2 := fun B H xs ds d Q hm rr e k => by
  obtain ⟨es, e1, rfl⟩ := Option.map_eq_some_iff.mp e
  refine h B H xs ds es Q hm rr e1 fun a kvs H' s hn ha ek nd q => k _ H' s ?_
  rw [← ek]
  exact .dic ha (hm.new hn) nd (q.less fun _ z => .inl z)
theorem VLA.or {r r' : List V → Hp → VK → Prop} {g g' : List D → Option (List D)} (h : VLA K p r g) (h' : VLA K p r' g') : VLA K p (fun xs H Q => r xs H Q ∨ r' xs H Q) fun ds => (g ds).orElse fun _ => g' ds := fun B H xs ds es Q hm rr e k => by
  have e : ((g ds).orElse fun _ => g' ds) = some es := e
  cases e1 : g ds with
  | some x =>
    rw [e1] at e
    cases e
    exact .inl (h B H xs ds _ Q hm rr e1 k)
  | none =>
    rw [e1] at e
    exact .inr (h' B H xs ds es Q hm rr e k)
theorem VDA.or {r r' : List V → Hp → VK → Prop} {g g' : List D → Option (List Key × List D)} (h : VDA K p r g) (h' : VDA K p r' g') : VDA K p (fun xs H Q => r xs H Q ∨ r' xs H Q) fun ds => (g ds).orElse fun _ => g' ds := fun B H xs ds es Q hm rr e k => by
  have e : ((g ds).orElse fun _ => g' ds) = some es := e
  cases e1 : g ds with
  | some x =>
    rw [e1] at e
    cases e
    exact .inl (h B H xs ds _ Q hm rr e1 k)
  | none =>
    rw [e1] at e
    exact .inr (h' B H xs ds es Q hm rr e k)
/-- a new list of data that are there -/
theorem vla_new {B : Addr → Prop} {H : Hp} {vs : List V} {es : List D} {Q : VK} (hm : HM B H) (q : Reps K p B H vs es) (k : ∀ a vs H', Same H H' → H a = none → H' a = some (.lst vs) → Reps K p (fun b => B b ∨ b = a) H' vs es → Q (.ref a) H') :
    ∀ a, H a = none → Q (.ref a) (upd H a (.lst vs)) := fun a hn => k a vs _ (same_new hn) hn upd_same (q.move (fun b o _ z => same_new hn b o z) (fun b z => by
    rcases z with z | z
    · exact .inl z
    · exact .inr (z ▸ hn)) hm)
theorem vda_new {B : Addr → Prop} {H : Hp} {kvs : List (Key × V)} {es : List D} {Q : VK} (hm : HM B H) (nd : (kvs.map (·.1)).Nodup) (q : Reps K p B H (kvs.map (·.2)) es)
    (k : ∀ a kvs' H', Same H H' → H a = none → H' a = some (.dK kvs') → kvs'.map (·.1) = kvs.map (·.1) → (kvs'.map (·.1)).Nodup → Reps K p (fun b => B b ∨ b = a) H' (kvs'.map (·.2)) es → Q (.ref a) H') :
    ∀ a, H a = none → Q (.ref a) (upd H a (.dK kvs)) := fun a hn => k a kvs _ (same_new hn) hn upd_same rfl nd (q.move (fun b o _ z => same_new hn b o z) (fun b z => by
    rcases z with z | z
    · exact .inl z
    · exact .inr (z ▸ hn)) hm)

/-! ### list() -/
def listL : List D → Option (List D)
  | [.lst ds] => some ds
  | [.tup ds] => some ds
  | _ => none
theorem vla_list : VLA K p (fun xs H Q => ∃ p ys, xs = [.ref p] ∧ (SqL K H p ys ∨ SqT K H p ys) ∧ ∀ l, H l = none → Q (.ref l) (upd H l (.lst ys))) listL := fun B H xs ds es Q hm r e k => by
  unfold listL at e
  split at e
  · obtain ⟨v, rfl, r'⟩ := r.one_inv
    cases e
    cases r' with
    | lst h nb q => exact ⟨_, _, rfl, .inl (.inl (.inl h)), vla_new hm q k⟩
  · obtain ⟨v, rfl, r'⟩ := r.one_inv
    cases e
    cases r' with
    | tup h q => exact ⟨_, _, rfl, .inr h.t, vla_new hm q k⟩
  · cases e
theorem vals_at : ∀ {xs : List V} {us : List Value}, xs.length = us.length → (∀ (i : Nat) x u, xs[i]? = some x → us[i]? = some u → RelV x u) → Vals xs us
  | [], [], _, _ => .nil
  | [], _ :: _, h, _ => by simp at h
  | _ :: _, [], h, _ => by simp at h
  | x :: xs, u :: us, h, f => .cons (f 0 x u rfl rfl) (vals_at (by simpa using h) fun i y w h1 h2 => f (i + 1) y w (by simpa using h1) (by simpa using h2))
/-- list(r), r a range -/
def listR : List D → Option (List D)
  | [.rng lo hi] => if -(2 ^ 62) ≤ lo ∧ lo < 2 ^ 62 ∧ -(2 ^ 62) ≤ hi ∧ hi < 2 ^ 62 ∧ (hi - lo).toNat ≤ 2 ^ 24 then some (irs lo (hi - lo).toNat) else none
  | _ => none
def rListR : List V → Hp → VK → Prop := fun xs H Q => ∃ a lo hi, xs = [.ref a] ∧ H a = some (.rng lo hi) ∧ (-(2 ^ 62) ≤ lo ∧ lo < 2 ^ 62 ∧ -(2 ^ 62) ≤ hi ∧ hi < 2 ^ 62) ∧ (hi - lo).toNat ≤ 2 ^ 24 ∧
  ∀ q, H q = none → Q (.ref q) (upd H q (.lst ((List.range (hi - lo).toNat).map fun (i : Nat) => V.int (lo + (i : Int)))))
theorem irs_reps {B : Addr → Prop} {H : Hp} (lo : Int) (n : Nat) : Reps K p B H ((List.range n).map fun (i : Nat) => V.int (lo + (i : Int))) (irs lo n) := by
  unfold irs
  refine Reps.of_get (by simp) fun i v d h1 h2 => ?_
  rw [List.getElem?_map] at h1 h2
  obtain ⟨j, hj, rfl⟩ := Option.map_eq_some_iff.mp h1
  rw [hj] at h2
  cases h2
  exact .int _
theorem call_listR {X : Cx} (hc : X.calm = true) : CallR X (.type "list") rListR := by
  intro pins s σ H xs us Q I r h
  obtain ⟨a, lo, hi, rfl, hq, ⟨b1, b2, b3, b4⟩, hn, q⟩ := h
  rw [Vals.ref1 r]
  obtain ⟨t, u, w, h0⟩ := (show ObjOk X.prog X.w H s.heap a (.rng lo hi) from I.hok a _ hq)
  have hsz : Builtin.Range.rangeSize lo hi 1 = ((hi - lo).toNat : Nat) := by rw [rangeSize_one]; split <;> omega
  refine call_list_range (n := (hi - lo).toNat) (I.ok.hd hc) (show IsRange s.heap a lo hi 1 t u w from h0) (small_one b1 b2 b3 b4) hsz hn fun h' tk acc' c' hk hD hacc => ?_
  have hv : Vals ((List.range (hi - lo).toNat).map fun (i : Nat) => V.int (lo + (i : Int))) acc'.toList := by
    refine vals_at (by rw [List.length_map, List.length_range, Array.length_toList]; exact hacc.1.symm) fun i x u h1 h2 => ?_
    rw [List.getElem?_map] at h1
    obtain ⟨j, hj, rfl⟩ := Option.map_eq_some_iff.mp h1
    have ej : j = i := by
      obtain ⟨hl, e⟩ := List.getElem?_eq_some_iff.mp hj
      rw [List.getElem_range] at e
      exact e.symm
    subst ej
    obtain ⟨t, rfl⟩ := hacc.2 j u (by simpa using h2)
    exact ⟨t, by rw [Int.mul_one]⟩
  have hlen : ((List.range (hi - lo).toNat).map fun (i : Nat) => V.int (lo + (i : Int))).length ≤ sizeLine := by
    rw [List.length_map, List.length_range, sizeLine_eq]
    omega
  exact ⟨.ref _, _, I.laid (t' := tk) hk (Nat.le_refl _) (show ObjOk X.prog X.w _ _ _ (.lst _) from ⟨hlen, acc'.toList, c', hv, by simpa using hD⟩), rfl, q _ (I.hok.fresh (Nat.le_refl _))⟩
theorem vla_listR : VLA K p rListR listR := fun B H xs ds es Q hm r e k => by
  unfold listR at e
  split at e
  · obtain ⟨v, rfl, r'⟩ := r.one_inv
    split at e
    · rename_i hb
      cases e
      cases r' with
      | rng h nb => exact ⟨_, _, _, rfl, h, ⟨hb.1, hb.2.1, hb.2.2.1, hb.2.2.2.1⟩, hb.2.2.2.2, vla_new hm (irs_reps _ _) k⟩
    · cases e
  · cases e
end

/-! ### sorted() -/
def ofPy : PyData → D
  | .none => .non
  | .bool b => .bl b
  | .int i => .int i
  | .str x => .str x
  | .tuple xs => .tup (ofPys xs)
  | .list xs => .lst (ofPys xs)
  | .dict _ => .non
where ofPys : List PyData → List D
  | [] => []
  | x :: xs => ofPy x :: ofPys xs
theorem ofPys_map : ∀ xs : List PyData, ofPy.ofPys xs = xs.map ofPy
  | [] => rfl
  | x :: xs => by rw [ofPy.ofPys, ofPys_map xs]; rfl
mutual
theorem ofPy_of : ∀ (d : D) (a : PyData), toPy d = some a → ofPy a = d
  | .non, a, h => by cases h; rfl
  | .bl b, a, h => by cases h; rfl
  | .int i, a, h => by cases h; rfl
  | .str x, a, h => by cases h; rfl
  | .tup ds, a, h => by
    simp only [toPy] at h
    obtain ⟨as, ea, rfl⟩ := Option.map_eq_some_iff.mp h
    rw [ofPy, ofPys_map, ofPys_of ds as ea]
  | .lst ds, a, h => by
    simp only [toPy] at h
    obtain ⟨as, ea, rfl⟩ := Option.map_eq_some_iff.mp h
    rw [ofPy, ofPys_map, ofPys_of ds as ea]
  | .dic _ _, a, h => by simp [toPy] at h
  | .ins _ _ _, a, h => by simp [toPy] at h
  | .rng _ _, a, h => by simp [toPy] at h
  | .ty _, a, h => by simp [toPy] at h
  | .pool, a, h => by simp [toPy] at h
theorem ofPys_of : ∀ (ds : List D) (as : List PyData), toPys ds = some as → as.map ofPy = ds
  | [], as, h => by
    simp only [toPys] at h
    cases h
    rfl
  | d :: ds, as, h => by
    simp only [toPys] at h
    obtain ⟨a, ea, h⟩ := Option.bind_eq_some_iff.mp h
    obtain ⟨bs, eb, rfl⟩ := Option.map_eq_some_iff.mp h
    rw [List.map_cons, ofPy_of d a ea, ofPys_of ds bs eb]
end
def isIntP : PyData → Bool
  | .int _ => true
  | _ => false
def isStrP : PyData → Bool
  | .str _ => true
  | _ => false
def keyPy : Key → PyData
  | .inl i => .int i
  | .inr x => .str x
def sortOk (as : List PyData) : Bool := as.all isIntP || (as.all isStrP && decide (as.length < 64)) || (PyData.canLayAll0 as && kindP as && cmpP as && decide (PyData.depthAll as ≤ 64))
def sortL : List D → Option (List D)
  | [.lst ds] => (toPys ds).bind fun as => if sortOk as then some ((sortP as).map ofPy) else none
  | [.dic ks _] => if (ks.map keyPy).all isIntP && decide (ks.length < 64) || (ks.map keyPy).all isStrP && decide (ks.length < 64) then some ((sortP (ks.map keyPy)).map ofPy) else none
  | _ => none
theorem ints_are : ∀ {as : List PyData}, as.all isIntP = true → ∃ ns : List Int, as = ns.map .int
  | [], _ => ⟨[], rfl⟩
  | a :: as, h => by
    rw [List.all_cons, Bool.and_eq_true] at h
    obtain ⟨ns, e⟩ := ints_are h.2
    cases a <;> first
      | (cases h.1; done)
      | skip
    rename_i i
    exact ⟨i :: ns, by rw [e]; rfl⟩
theorem strs_are : ∀ {as : List PyData}, as.all isStrP = true → ∃ ns : List Str, as = ns.map .str
  | [], _ => ⟨[], rfl⟩
  | a :: as, h => by
    rw [List.all_cons, Bool.and_eq_true] at h
    obtain ⟨ns, e⟩ := strs_are h.2
    cases a <;> first
      | (cases h.1; done)
      | skip
    rename_i i
    exact ⟨i :: ns, by rw [e]; rfl⟩
theorem tot_int (i j : Int) : totB (.int i) (.int j) = decide (i < j) := totB_of (by rfl)
theorem tot_str (x y : Str) : totB (.str x) (.str y) = decide (x.cps.toList < y.cps.toList) := totB_of (by rfl)
/-- one sorted list alone -/
theorem sortP_is {l m : List PyData} (hp : m.Perm l) (hs : SrtO.Srtd totB m) (ha : ∀ a ∈ l, ∀ b ∈ l, totB b a = false → totB a b = false → a = b) : sortP l = m := by
  obtain ⟨g1, g2⟩ := sortP_ok l
  exact List.Perm.eq_of_pairwise (le := fun a b => totB b a = false) (fun a b h1 h2 q1 q2 => ha a (g2.perm.mem_iff.mp h1) b (hp.mem_iff.mp h2) q1 q2) g1 hs (g2.perm.trans hp.symm)
theorem sortP_ints {ns ms : List Int} (hp : ms.Perm ns) (hs : ms.Pairwise (· ≤ ·)) : sortP (ns.map .int) = ms.map .int := by
  refine sortP_is (hp.map _) (List.pairwise_map.mpr (hs.imp fun {a b} h => ?_)) fun a h1 b h2 q1 q2 => ?_
  · rw [tot_int]
    exact decide_eq_false (by omega)
  · obtain ⟨i, _, rfl⟩ := List.mem_map.mp h1
    obtain ⟨j, _, rfl⟩ := List.mem_map.mp h2
    rw [tot_int] at q1 q2
    have q1 := of_decide_eq_false q1
    have q2 := of_decide_eq_false q2
    rw [show i = j by omega]
theorem str_ext {x y : Str} (h : x.cps.toList = y.cps.toList) : x = y := by
  obtain ⟨a⟩ := x
  obtain ⟨b⟩ := y
  have h : a.toList = b.toList := h
  rw [Array.toList_inj.mp h]
theorem rising_pair : ∀ (l : List Str) (a : Str), risingS a l = true → (a :: l).Pairwise fun x y => ¬ y.cps.toList < x.cps.toList
  | [], a, _ => List.pairwise_singleton _ _
  | x :: r, a, h => by
    simp only [risingS, Bool.and_eq_true] at h
    obtain ⟨h1, h2⟩ := h
    rw [ltCps_eq] at h1
    have h1 : ¬ x.cps.toList < a.cps.toList := by simpa using h1
    have ih := rising_pair r x h2
    refine List.pairwise_cons.mpr ⟨fun b hb => ?_, ih⟩
    rcases List.mem_cons.mp hb with z | z
    · rw [z]; exact h1
    · have q := (List.pairwise_cons.mp ih).1 b z
      exact List.not_lt.mpr (List.le_trans (List.not_lt.mp h1) (List.not_lt.mp q))
theorem sortP_strs {ns ms : List Str} (hp : ms.Perm ns) (hs : sortedS ms = true) : sortP (ns.map .str) = ms.map .str := by
  have hs' : ms.Pairwise fun x y => ¬ y.cps.toList < x.cps.toList := by
    cases ms with
    | nil => exact List.Pairwise.nil
    | cons x r => exact rising_pair r x hs
  refine sortP_is (hp.map _) (List.pairwise_map.mpr (hs'.imp fun {a b} h => ?_)) fun a h1 b h2 q1 q2 => ?_
  · rw [tot_str]
    exact decide_eq_false h
  · obtain ⟨i, _, rfl⟩ := List.mem_map.mp h1
    obtain ⟨j, _, rfl⟩ := List.mem_map.mp h2
    rw [tot_str] at q1 q2
    have q1 := List.not_lt.mp (of_decide_eq_false q1)
    have q2 := List.not_lt.mp (of_decide_eq_false q2)
    rw [str_ext (List.le_antisymm q1 q2)]
def rSortKs : List V → Hp → VK → Prop := fun xs H Q => ∃ (a : Addr) (kvs : List (Key × V)) (ks : List Str), xs = [.ref a] ∧ Rd H a (.dK kvs) ∧ kvs.map (·.1) = ks.map Sum.inr ∧ ks.length < 64 ∧
    ∀ ys p, ys.Perm ks → sortedS ys = true → H p = none → Q (.ref p) (upd H p (.lst (ys.map V.str)))
def rSortKi : List V → Hp → VK → Prop := fun xs H Q => ∃ (a : Addr) (kvs : List (Key × V)) (ks : List Int), xs = [.ref a] ∧ Rd H a (.dK kvs) ∧ kvs.map (·.1) = ks.map Sum.inl ∧ ks.length < 64 ∧
    ∀ (ys : List Int) (p : Addr), ys.Perm ks → ys.Pairwise (· ≤ ·) → H p = none → Q (.ref p) (upd H p (.lst (ys.map V.int)))
def rSortX (K : PySem.W.Frag) : List V → Hp → VK → Prop := fun xs H Q => rSortedI K xs H Q ∨ rSortedS K xs H Q ∨ rSortD K xs H Q ∨ rSortKs xs H Q ∨ rSortKi xs H Q
theorem call_sortX {X : Cx} (hc : X.calm = true) (hu : X.A.units + 200 < cLine) : CallR X (.builtin "sorted") (rSortX X.K) := CallR.or cr_sortedI (CallR.or cr_sortedS (CallR.or (cr_sortD hu) (CallR.or (call_sortedD hc) (call_sortedDI hc))))
section
variable {K : PySem.W.Frag} {p : Addr}
theorem reps_ints {B : Addr → Prop} {H : Hp} : ∀ (ns : List Int), Reps K p B H (ns.map V.int) ((ns.map PyData.int).map ofPy)
  | [] => .nil
  | n :: ns => .cons (.int n) (reps_ints ns)
theorem reps_strs {B : Addr → Prop} {H : Hp} : ∀ (ns : List Str), Reps K p B H (ns.map V.str) ((ns.map PyData.str).map ofPy)
  | [] => .nil
  | n :: ns => .cons (.str n) (reps_strs ns)
theorem vla_sort : VLA K p (rSortX K) sortL := fun B H xs ds es Q hm r e k => by
  unfold sortL at e
  split at e
  · obtain ⟨v, rfl, r'⟩ := r.one_inv
    obtain ⟨as, ea, e⟩ := Option.bind_eq_some_iff.mp e
    split at e
    · rename_i hok
      cases e
      cases r' with
      | @lst a vs ds' h nb q =>
        have hd : DpAll K H vs as := Reps.dp _ _ _ q ea
        unfold sortOk at hok
        rw [Bool.or_eq_true, Bool.or_eq_true] at hok
        rcases hok with (hok | hok) | hok
        · obtain ⟨ns, rfl⟩ := ints_are hok
          have ev : vs = ns.map V.int := by
            clear k hok
            have : ∀ (ns : List Int) (vs : List V), DpAll K H vs (ns.map .int) → vs = ns.map V.int := by
              intro ns
              induction ns with
              | nil => intro vs h; cases h; rfl
              | cons n ns ih => intro vs h; cases h with | cons h1 h2 => cases h1; rw [ih _ h2]; rfl
            exact this ns vs hd
          subst ev
          refine .inl ⟨a, ns, rfl, .inl (.inl h), fun ms b hp hs hb => ?_⟩
          rw [sortP_ints hp hs] at k
          exact vla_new hm (reps_ints ms) k b hb
        · rw [Bool.and_eq_true, decide_eq_true_eq] at hok
          obtain ⟨ns, rfl⟩ := strs_are hok.1
          have ev : vs = ns.map V.str := by
            clear k hok
            have : ∀ (ns : List Str) (vs : List V), DpAll K H vs (ns.map .str) → vs = ns.map V.str := by
              intro ns
              induction ns with
              | nil => intro vs h; cases h; rfl
              | cons n ns ih => intro vs h; cases h with | cons h1 h2 => cases h1; rw [ih _ h2]; rfl
            exact this ns vs hd
          subst ev
          refine .inr (.inl ⟨a, ns, rfl, .inl (.inl h), by simpa using hok.2, fun ms b hp hs hb => ?_⟩)
          rw [sortP_strs hp hs] at k
          exact vla_new hm (reps_strs ms) k b hb
        · simp only [Bool.and_eq_true, decide_eq_true_eq] at hok
          obtain ⟨⟨⟨h1, h2⟩, h3⟩, h4⟩ := hok
          refine .inr (.inr (.inl ⟨a, vs, as, rfl, .inl (.inl h), hd, h1, h2, h3, h4, fun y hy => ?_, fun zs b hb hl hz => ?_⟩))
          · have : ∀ (as : List PyData) (vs : List V), DpAll K H vs as → as.all isTupP = true → ∀ y ∈ vs, ∃ b, y = V.ref b := by
              intro as
              induction as with
              | nil => intro vs h _ y hy; cases h; cases hy
              | cons a as ih =>
                intro vs h ht y hy
                rw [List.all_cons, Bool.and_eq_true] at ht
                cases h with
                | cons h1 h2 =>
                  rcases List.mem_cons.mp hy with z | z
                  · subst z
                    cases h1 <;> first
                      | (cases ht.1; done)
                      | exact ⟨_, rfl⟩
                  · exact ih _ h2 ht.2 y z
            unfold kindP at h2
            rw [Bool.and_eq_true] at h2
            exact this as vs hd h2.1 y hy
          · have eds := ofPys_of _ _ ea
            have rz : Reps K p B H zs ((sortP as).map ofPy) := Reps.of_get (by rw [List.length_map]; exact hl) fun i z d g1 g2 => by
              obtain ⟨j, a', f1, f2, f3⟩ := hz i z g1
              rw [List.getElem?_map, f3] at g2
              cases g2
              obtain ⟨d', g3, g4⟩ := q.getV f1
              rw [← eds, List.getElem?_map, f2] at g3
              cases g3
              exact g4
            exact vla_new hm rz k b hb
    · cases e
  · obtain ⟨v, rfl, r'⟩ := r.one_inv
    split at e
    · rename_i hok
      cases e
      cases r' with
      | @dic a kvs ds' h nb nd q =>
        rw [Bool.or_eq_true] at hok
        rcases hok with hok | hok
        · rw [Bool.and_eq_true, decide_eq_true_eq] at hok
          obtain ⟨ns, en⟩ := ints_are hok.1
          have ek : kvs.map (·.1) = ns.map Sum.inl := by
            have : ∀ (ks : List Key) (ns : List Int), ks.map keyPy = ns.map .int → ks = ns.map Sum.inl := by
              intro ks
              induction ks with
              | nil => intro ns h; cases ns with | nil => rfl | cons _ _ => cases h
              | cons k ks ih =>
                intro ns h
                cases ns with
                | nil => cases h
                | cons n ns =>
                  rw [List.map_cons, List.map_cons] at h
                  obtain ⟨h1, h2⟩ := List.cons.inj h
                  cases k with
                  | inl i => cases h1; rw [ih ns h2]; rfl
                  | inr x => cases h1
            exact this _ ns en
          refine .inr (.inr (.inr (.inr ⟨a, kvs, ns, rfl, .inl h, ek, by have := hok.2; rw [ek, List.length_map] at this; exact this, fun ms b hp hs hb => ?_⟩)))
          rw [en, sortP_ints hp hs] at k
          exact vla_new hm (reps_ints ms) k b hb
        · rw [Bool.and_eq_true, decide_eq_true_eq] at hok
          obtain ⟨ns, en⟩ := strs_are hok.1
          have ek : kvs.map (·.1) = ns.map Sum.inr := by
            have : ∀ (ks : List Key) (ns : List Str), ks.map keyPy = ns.map .str → ks = ns.map Sum.inr := by
              intro ks
              induction ks with
              | nil => intro ns h; cases ns with | nil => rfl | cons _ _ => cases h
              | cons k ks ih =>
                intro ns h
                cases ns with
                | nil => cases h
                | cons n ns =>
                  rw [List.map_cons, List.map_cons] at h
                  obtain ⟨h1, h2⟩ := List.cons.inj h
                  cases k with
                  | inl i => cases h1
                  | inr x => cases h1; rw [ih ns h2]; rfl
            exact this _ ns en
          refine .inr (.inr (.inr (.inl ⟨a, kvs, ns, rfl, .inl h, ek, by have := hok.2; rw [ek, List.length_map] at this; exact this, fun ms b hp hs hb => ?_⟩)))
          rw [en, sortP_strs hp hs] at k
          exact vla_new hm (reps_strs ms) k b hb
    · cases e
  · cases e
end
end Ip

set_option maxHeartbeats 1000000
/-! IpW: dict(), methods. -/
namespace Ip
open PySem L2 PyProof.Rows

/-! ### rows of keys and data -/
abbrev KD := List (Key × D)
def putD (l : KD) (k : Key) (d : D) : KD := if (l.any fun kv => decide (kv.1 = k)) = true then l.map (fun kv => if kv.1 = k then (kv.1, d) else kv) else l ++ [(k, d)]
def mergeD (l m : KD) : KD := m.foldl (fun acc kv => putD acc kv.1 kv.2) l
def kdOf : List Key → List D → KD
  | k :: ks, d :: ds => (k, d) :: kdOf ks ds
  | _, _ => []
section
variable {K : PySem.W.Frag} {p : Addr} {B : Addr → Prop} {H : Hp}
/-- keys alike, values borne -/
inductive RKD (K : PySem.W.Frag) (p : Addr) (B : Addr → Prop) (H : Hp) : List (Key × V) → KD → Prop
  | nil : RKD K p B H [] []
  | cons {k : Key} {v : V} {d : D} {kvs : List (Key × V)} {l : KD} : Rep K p B H v d → RKD K p B H kvs l → RKD K p B H ((k, v) :: kvs) ((k, d) :: l)
theorem RKD.keys : ∀ {kvs : List (Key × V)} {l : KD}, RKD K p B H kvs l → kvs.map (·.1) = l.map (·.1)
  | _, _, .nil => rfl
  | _, _, .cons _ t => by rw [List.map_cons, List.map_cons, t.keys]
theorem RKD.vals : ∀ {kvs : List (Key × V)} {l : KD}, RKD K p B H kvs l → Reps K p B H (kvs.map (·.2)) (l.map (·.2))
  | _, _, .nil => .nil
  | _, _, .cons r t => .cons r t.vals
theorem RKD.length : ∀ {kvs : List (Key × V)} {l : KD}, RKD K p B H kvs l → kvs.length = l.length
  | _, _, .nil => rfl
  | _, _, .cons _ t => by rw [List.length_cons, List.length_cons, t.length]
theorem RKD.of : ∀ {kvs : List (Key × V)} {ds : List D}, Reps K p B H (kvs.map (·.2)) ds → RKD K p B H kvs (kdOf (kvs.map (·.1)) ds)
  | [], ds, r => by
    cases r
    exact .nil
  | kv :: kvs, ds, r => by
    cases r with
    | cons r1 r2 => exact .cons r1 (RKD.of r2)
theorem RKD.any (k : Key) : ∀ {kvs : List (Key × V)} {l : KD}, RKD K p B H kvs l → (kvs.any fun kv => decide (kv.1 = k)) = l.any fun kv => decide (kv.1 = k)
  | _, _, .nil => rfl
  | _, _, .cons _ t => by rw [List.any_cons, List.any_cons, t.any k]
theorem RKD.app : ∀ {kvs kvs' : List (Key × V)} {l l' : KD}, RKD K p B H kvs l → RKD K p B H kvs' l' → RKD K p B H (kvs ++ kvs') (l ++ l')
  | _, _, _, _, .nil, s => s
  | _, _, _, _, .cons r t, s => .cons r (t.app s)
theorem RKD.repl {v : V} {d : D} (k : Key) (rv : Rep K p B H v d) : ∀ {kvs : List (Key × V)} {l : KD}, RKD K p B H kvs l → RKD K p B H (kvs.map fun kv => if kv.1 = k then (kv.1, v) else kv) (l.map fun kv => if kv.1 = k then (kv.1, d) else kv)
  | _, _, .nil => .nil
  | _, _, .cons (k := j) r t => by
    rw [List.map_cons, List.map_cons]
    by_cases e : j = k
    · simp only [e, if_true]
      exact .cons rv (t.repl k rv)
    · simp only [e, if_false]
      exact .cons r (t.repl k rv)
theorem RKD.put {v : V} {d : D} (k : Key) (rv : Rep K p B H v d) {kvs : List (Key × V)} {l : KD} (r : RKD K p B H kvs l) : RKD K p B H (putK kvs k v) (putD l k d) := by
  unfold putK putD
  rw [r.any k]
  split
  · exact r.repl k rv
  · exact r.app (.cons rv .nil)
theorem RKD.merge : ∀ {more : List (Key × V)} {m : KD} {kvs : List (Key × V)} {l : KD}, RKD K p B H more m → RKD K p B H kvs l → RKD K p B H (mergeK kvs more) (mergeD l m)
  | _, _, _, _, .nil, r => r
  | _, _, _, _, .cons (k := k) rv t, r => by
    have q := RKD.merge t (r.put k rv)
    exact q
theorem nodup_put {α : Type} (k : Key) (v : α) (kvs : List (Key × α)) (h : (kvs.map (·.1)).Nodup) : ((if (kvs.any fun kv => decide (kv.1 = k)) = true then kvs.map (fun kv => if kv.1 = k then (kv.1, v) else kv) else kvs ++ [(k, v)]).map (·.1)).Nodup := by
  split
  · rw [List.map_map]
    have e : ((fun x : Key × α => x.1) ∘ fun kv => if kv.1 = k then (kv.1, v) else kv) = fun x => x.1 := funext fun kv => by
      show (if kv.1 = k then (kv.1, v) else kv).1 = kv.1
      split <;> rfl
    rw [e]
    exact h
  · rename_i hn
    rw [List.map_append]
    refine List.nodup_append.mpr ⟨h, by simp, fun a ha b hb => ?_⟩
    have hb : b = k := by simpa using hb
    intro z
    obtain ⟨kv, hk, e⟩ := List.mem_map.mp ha
    exact hn (List.any_eq_true.mpr ⟨kv, hk, by rw [decide_eq_true_eq, e, z, hb]⟩)
theorem nodup_merge : ∀ (more kvs : List (Key × V)), (kvs.map (·.1)).Nodup → ((mergeK kvs more).map (·.1)).Nodup
  | [], kvs, h => h
  | kv :: more, kvs, h => nodup_merge more (putK kvs kv.1 kv.2) (nodup_put kv.1 kv.2 kvs h)
end

/-! ### dict() -/
def pairOf : D → Option (Key × D)
  | .tup [k, d] => (keyD k).map fun k' => (k', d)
  | _ => none
def pairsOfD : List D → Option KD
  | [] => some []
  | d :: ds => (pairOf d).bind fun a => (pairsOfD ds).map fun l => a :: l
def dictL : List D → Option (List Key × List D)
  | [.dic ks ds] => some (ks, ds)
  | [.lst ds] => (pairsOfD ds).map fun l => ((mergeD [] l).map (·.1), (mergeD [] l).map (·.2))
  | [.tup ds] => (pairsOfD ds).map fun l => ((mergeD [] l).map (·.1), (mergeD [] l).map (·.2))
  | _ => none
section
variable {K : PySem.W.Frag} {p : Addr} {B : Addr → Prop} {H : Hp}
theorem pairs_rep : ∀ {vs : List V} {ds : List D} {l : KD}, Reps K p B H vs ds → pairsOfD ds = some l → ∃ (ps : List Addr) (kvs : List (Key × V)), vs = ps.map V.ref ∧ Paired (fun a kv => SqT K H a [kV kv.1, kv.2]) ps kvs ∧ RKD K p B H kvs l
  | _, [], _, r, h => by
    cases r
    cases h
    exact ⟨[], [], rfl, .nil, .nil⟩
  | _, d :: ds, _, r, h => by
    cases r with
    | cons r1 r2 =>
      simp only [pairsOfD] at h
      obtain ⟨a, ea, h⟩ := Option.bind_eq_some_iff.mp h
      obtain ⟨l, el, rfl⟩ := Option.map_eq_some_iff.mp h
      obtain ⟨ps, kvs, e1, e2, e3⟩ := pairs_rep r2 el
      unfold pairOf at ea
      split at ea
      · rename_i dk dv
        obtain ⟨k', ek, rfl⟩ := Option.map_eq_some_iff.mp ea
        cases r1 with
        | tup h q =>
          obtain ⟨v, w, rfl, q1, q2⟩ := q.two_inv
          rw [key_rep q1 ek] at h
          exact ⟨_ :: ps, (k', w) :: kvs, by rw [e1]; rfl, .cons h.t e2, .cons q2 e3⟩
      · cases ea
end
section
variable {X : Cx} {pins : List (Addr × Obj)} {σ : L2.St} {H : Hp} {s : Shared}
theorem pairs2 (I : Inv X pins σ H s) : ∀ {ps : List Addr} {kvs : List (Key × V)}, Paired (fun a kv => SqT X.K H a [kV kv.1, kv.2]) ps kvs →
    ∃ (prs : List (Key × Value)) (pv : List (Value × Value)), KV kvs prs ∧ pv.length = ps.length ∧ prs.length = ps.length ∧
      (∀ (j : Nat) (u w : Value), pv[j]? = some (u, w) → ∃ b, ps[j]? = some b ∧ IsTup s.heap b #[u, w]) ∧ ∀ (j : Nat) (u w : Value), pv[j]? = some (u, w) → ∃ k, prs[j]? = some (k, w) ∧ keyIs k u = true
  | _, _, .nil => ⟨[], [], .nil, rfl, rfl, fun j u w e => by simp at e, fun j u w e => by simp at e⟩
  | _, _, .cons (a := b) (b := kv) h t => by
    obtain ⟨prs, pv, r, l1, l2, h1, h2⟩ := pairs2 I t
    obtain ⟨its, rv, ht, _⟩ := I.tuple h
    obtain ⟨u, y, ei, ru, ry⟩ := vals2 rv
    subst ei
    refine ⟨(kv.1, y) :: prs, (u, y) :: pv, .cons ⟨rfl, ry⟩ r, by rw [List.length_cons, List.length_cons, l1], by rw [List.length_cons, List.length_cons, l2], fun j u' w e => ?_, fun j u' w e => ?_⟩
    · cases j with
      | zero =>
        cases (Option.some.inj e : (u, y) = (u', w))
        exact ⟨b, rfl, ht⟩
      | succ j =>
        obtain ⟨b', e1, e2⟩ := h1 j u' w (by simpa using e)
        exact ⟨b', by simpa using e1, e2⟩
    · cases j with
      | zero =>
        cases (Option.some.inj e : (u, y) = (u', w))
        exact ⟨kv.1, rfl, kV_is (P := X.prog) (w := X.w) ru⟩
      | succ j =>
        obtain ⟨k, e1, e2⟩ := h2 j u' w (by simpa using e)
        exact ⟨k, by simpa using e1, e2⟩
theorem SqN.plain (I : Inv X pins σ H s) {a : Addr} {xs : List V} (h : SqN X.K H a xs) : ∃ its : List Value, Vals xs its ∧ PlainSeq "tuple" s.heap a its.toArray ∧ xs.length ≤ sizeLine := by
  rcases h with ⟨o, hd, h⟩ | ⟨o, its, n, h1, h2, h3, h4, h5, h6⟩
  · obtain ⟨e, hz, its, rv, o', e', hc, n, hdt⟩ := (show ObjOk X.prog X.w H s.heap a (.frz o (.tup xs)) from I.hok a _ h)
    rw [e] at e'
    cases e'
    exact ⟨its, rv, ⟨o, n, e, hc, hd, hdt⟩, hz⟩
  · exact ⟨its.toList, h6, ⟨o, n, I.kIn a o h1, h2, h3, by simpa using h4⟩, by rw [h6.length, Array.length_toList]; exact h5⟩
end
/-- dict(t), t a tuple of pairs -/
def rDictT (K : PySem.W.Frag) : List V → Hp → VK → Prop := fun xs H Q => ∃ (a : Addr) (ps : List Addr) (kvs : List (Key × V)), xs = [.ref a] ∧ SqN K H a (ps.map V.ref) ∧ Paired (fun b kv => SqT K H b [kV kv.1, kv.2]) ps kvs ∧
    ∀ q, H q = none → Q (.ref q) (upd H q (.dK (mergeK [] kvs)))
theorem call_dictT {X : Cx} (hc : X.calm = true) : CallR X (.type "dict") (rDictT X.K) := by
  intro pins s σ H xs us Q I r q
  obtain ⟨a, ps, kvs, rfl, hq, hp, q⟩ := q
  rw [Vals.ref1 r]
  obtain ⟨its, rv, pl, hz⟩ := SqN.plain I hq
  obtain ⟨prs, pv, rk, l1, l2, h1, h2⟩ := pairs2 I hp
  have ei := refs_at rv
  subst ei
  rw [List.length_map] at hz
  have hT : ∀ (j : Nat) (b : Addr), ps[j]? = some b → ps.getD j 0 = b := fun j b e => by rw [List.getD_eq_getElem?_getD, e]; rfl
  refine PySem.call_dict_pairs (knd := mixKind X.prog X.w) (kvs := prs) (n := pv.length) (PairArg.tuple a (ps.map Value.ref).toArray (fun j => ps.getD j 0) pv) (I.ok.hd hc) ⟨pl, by simp [l1], fun j k v e => ?_⟩ ⟨by rw [l2, l1], fun i key v e => ?_⟩ (by rw [l1]; exact hz) fun h' tk hd' hk => ?_
  · obtain ⟨b, e1, e2⟩ := h1 j k v e
    dsimp only
    rw [hT j b e1]
    exact ⟨by simp [e1], .inl e2⟩
  · obtain ⟨k, e1, e2⟩ := h2 i key v e
    exact ⟨k, e1, e2⟩
  · have hm : (s.heap.objs.size == sysModules) = false := beq_eq_false_iff_ne.mpr (Nat.ne_of_gt I.big)
    have hlen : (mergeK [] kvs).length ≤ sizeLine := by
      refine Nat.le_trans (length_mergeK kvs []) ?_
      rw [List.length_nil, Nat.zero_add, rk.length, l2]
      exact hz
    exact ⟨.ref s.heap.objs.size, upd H s.heap.objs.size (.dK (mergeK [] kvs)), I.laid (t' := tk) (fun b o e => hk b o (by simp) e) (Nat.le_refl _) (show ObjOk X.prog X.w _ _ _ (.dK (mergeK [] kvs)) from ⟨hlen, hm, merged [] prs, KV.merge rk .nil, hd'⟩), rfl, q _ (I.hok.fresh (Nat.le_refl _))⟩
def rDictL (K : PySem.W.Frag) : List V → Hp → VK → Prop := fun xs H Q => ∃ (a : Addr) (ps : List Addr) (kvs : List (Key × V)), xs = [.ref a] ∧ SqL K H a (ps.map V.ref) ∧ Paired (fun p kv => SqT K H p [kV kv.1, kv.2]) ps kvs ∧
    ∀ p, H p = none → Q (.ref p) (upd H p (.dK (mergeK [] kvs)))
def rDictC : List V → Hp → VK → Prop := fun xs H Q => ∃ (a : Addr) (kvs : List (Key × V)), xs = [.ref a] ∧ Rd H a (.dK kvs) ∧ ∀ p, H p = none → Q (.ref p) (upd H p (.dK kvs))
def rDictX (K : PySem.W.Frag) : List V → Hp → VK → Prop := fun xs H Q => rDictC xs H Q ∨ rDictL K xs H Q ∨ rDictT K xs H Q
theorem call_dictX {X : Cx} (hc : X.calm = true) : CallR X (.type "dict") (rDictX X.K) := CallR.or call_dictD (CallR.or (call_dictP hc) (call_dictT hc))
theorem vda_dict {K : PySem.W.Frag} {p : Addr} : VDA K p (rDictX K) dictL := fun B H xs ds es Q hm r e k => by
  unfold dictL at e
  split at e
  · obtain ⟨v, rfl, r'⟩ := r.one_inv
    cases e
    cases r' with
    | dic h nb nd q => exact .inl ⟨_, _, rfl, .inl h, vda_new hm nd q k⟩
  · obtain ⟨v, rfl, r'⟩ := r.one_inv
    obtain ⟨l, el, rfl⟩ := Option.map_eq_some_iff.mp e
    cases r' with
    | lst h nb q =>
      obtain ⟨ps, kvs, rfl, hp, rk⟩ := pairs_rep q el
      have rm := rk.merge (kvs := []) .nil
      refine .inr (.inl ⟨_, ps, kvs, rfl, .inl (.inl h), hp, vda_new hm (nodup_merge kvs [] List.nodup_nil) rm.vals ?_⟩)
      rw [rm.keys]
      exact k
  · obtain ⟨v, rfl, r'⟩ := r.one_inv
    obtain ⟨l, el, rfl⟩ := Option.map_eq_some_iff.mp e
    cases r' with
    | tup h q =>
      obtain ⟨ps, kvs, rfl, hp, rk⟩ := pairs_rep q el
      have rm := rk.merge (kvs := []) .nil
      refine .inr (.inr ⟨_, ps, kvs, rfl, h, hp, vda_new hm (nodup_merge kvs [] List.nodup_nil) rm.vals ?_⟩)
      rw [rm.keys]
      exact k
  · cases e
end Ip

set_option maxHeartbeats 1000000
/-! IpY: tuples and lists times ints; methods. -/
namespace Ip
open PySem L2 PyProof.Rows
open PySem.AutoSeq1 (wpAny_loadPart')

theorem tuple_mulW1 (l : Addr) (items : Array Value) (n : Nat) (dd : Option Addr) (sl : Array (Option Value)) (x : Int) (u : Tok) (c0 : (decide (x < -(2 ^ 63)) || decide (x ≥ 2 ^ 63)) = false) (c1 : (items.isEmpty || x == 1) = true) :
    Meets (Builtin.«tuple.__mul__» ⟨[.ref l, .int x u], []⟩) (fun _ R s => s.heap.get? l = some { cls := .type "tuple", dict := dd, data := .seq items n, slots := sl } ∧ R (.ok (.ret (.ref l))) s) :=
  .of_wp fun prog w A R s h => by
    obtain ⟨hp, g, d, tk, os⟩ := s
    obtain ⟨hl, h⟩ := h
    have f1 := AutoSeq1.idx_int
    wp_walk using wpAny_loadPart' hl
    repeat (first
      | (refine wpAny_ite_false (decide_eq_false (by rw [c0]; exact Bool.false_ne_true)) ?_; wp_walk using wpAny_loadPart' hl)
      | (refine wpAny_ite_true (decide_eq_true (by rw [c1])) ?_; wp_walk using wpAny_loadPart' hl))
    exact ⟨_, rfl, h⟩
/-- t * k: itself, or a new one without a dict -/
def rRepN (K : PySem.W.Frag) : R2 := fun x y H Q => ∃ l k xs, x = .ref l ∧ y = .int k ∧ SqT K H l xs ∧ xs ≠ [] ∧ 1 ≤ k ∧ k ≤ 1000 ∧ xs.length ≤ 1000 ∧ (k = 1 → Q (.ref l) H) ∧ (k ≠ 1 → ∀ (q : Addr) (o : Obj), o.dict = none → H q = none → Q (.ref q) (upd H q (.frz o (.tup (List.replicate k.toNat xs).flatten))))
theorem op_repN {X : Cx} : OpR X (binaryOp .Mult) (rRepN X.K) := by
  intro pins s σ H x y v u Q I rx ry h
  obtain ⟨l, k, xs, rfl, rfl, hT, hne, h1, h2, hz, q1, q2⟩ := h
  cases rx
  obtain ⟨t, rfl⟩ := ry
  obtain ⟨its, r, ⟨⟨cls, dd, data, sl⟩, ho, hc, n, hd⟩, hs⟩ := I.tuple hT
  simp only at hc hd
  subst hc hd
  have hle : its.length = xs.length := r.length.symm
  have hn : its ≠ [] := fun e => hne (r.nil_iff.mp e)
  have c0 : (decide (k < -(2 ^ 63)) || decide (k ≥ 2 ^ 63)) = false := by
    rw [decide_eq_false (by omega), decide_eq_false (by omega)] <;> rfl
  refine wpAny_binaryOp_repeat_ref (T := "tuple") (U := "int") (by decide) ⟨_, ho, rfl⟩ (fun s' => typeIs_int s' k t) noFill_tuple_mul F.fills_int_mul F.slot_int_rmul repeat_tuple F.slot_int_index.lookup
    (call_meets F.slot_int_rmul (typeIs_int s k t) F.entry_int_rmul (F.args_int_rmul_2 _ _) (int_rmul_tuple k t l its.toArray n dd sl) ⟨ho, rfl, ⟨_, ho, rfl⟩, ?_⟩)
  by_cases hk : k = 1
  · subst hk
    exact call_meets F.slot_tuple_mul ⟨_, ho, rfl⟩ F.entry_tuple_mul (F.args_tuple_mul_2 _ _) (tuple_mulW1 l its.toArray n dd sl 1 t c0 (by simp)) ⟨ho, .ref l, H, I, rfl, q1 rfl⟩
  · have hi : its.toArray.isEmpty = false := by
      cases its with
      | nil => exact absurd rfl hn
      | cons a b => rfl
    have hsz0 : its.toArray.size = xs.length := by rw [List.size_toArray, hle]
    have hm : ((its.toArray.size : Nat) : Int) * k ≤ 1000000 := by
      rw [hsz0]
      have a1 : ((xs.length : Nat) : Int) * k ≤ 1000 * k := Int.mul_le_mul_of_nonneg_right (by omega) (by omega)
      omega
    have flen : (List.replicate k.toNat its).flatten.length ≤ sizeLine := by
      rw [PyProof.Rows.lm_len_rep_flat, hle, sizeLine_eq]
      have a1 : k.toNat * xs.length ≤ 1000 * 1000 := Nat.mul_le_mul (by omega) hz
      omega
    have c1 : (its.toArray.isEmpty || k == 1) = false := by
      rw [hi, Bool.false_or]
      exact beq_eq_false_iff_ne.mpr hk
    have c2 : (decide (k ≤ 0) || its.toArray.isEmpty) = false := by
      rw [hi, Bool.or_false]
      exact decide_eq_false (by omega)
    have c4 : Builtin.Tuple.tupleTooMany (((its.toArray.size : Nat) : Int) * k) = false := by
      unfold Builtin.Tuple.tupleTooMany
      rw [sizeLine_eq]
      exact decide_eq_false (by omega)
    refine call_meets F.slot_tuple_mul ⟨_, ho, rfl⟩ F.entry_tuple_mul (F.args_tuple_mul_2 _ _) (tuple_mulW l its.toArray n dd sl k t c0 c1 c2 (by omega) c4 (by rw [size_rep, List.size_toArray]; exact flen)) ⟨ho, ?_⟩
    rw [size_rep]
    refine ⟨.ref s.heap.objs.size, _, I.laid (t' := s.toks) (o := .frz _ (.tup (List.replicate k.toNat xs).flatten)) (fun b ob q => Heap.get?_push_of_some _ q) (Nat.le_refl _) ⟨Heap.get?_push_size _ rfl, ?_⟩, rfl, q2 hk _ _ rfl (I.hok.fresh (Nat.le_refl _))⟩
    exact ⟨by rw [PyProof.Rows.lm_len_rep_flat, sizeLine_eq]; have a1 : k.toNat * xs.length ≤ 1000 * 1000 := Nat.mul_le_mul (by omega) hz; omega, _, r.rep k.toNat, IsTup.new _ _⟩
def mulX : D → D → Option D
  | .lst xs, .int k => if -(2 ^ 62) ≤ k ∧ k < 2 ^ 62 ∧ xs.length * k.toNat ≤ sizeLine then some (.lst (List.replicate k.toNat xs).flatten) else none
  | .tup xs, .int k => if xs ≠ [] ∧ 1 ≤ k ∧ k ≤ 1000 ∧ xs.length ≤ 1000 then some (.tup (List.replicate k.toNat xs).flatten) else none
  | d, e => mulD d e
def rMulX (K : PySem.W.Frag) : R2 := fun x y H Q => rI CMul (fun i j => .int (i * j)) x y H Q ∨ rRep x y H Q ∨ rRepN K x y H Q
theorem op_mulX {X : Cx} : OpR X (binaryOp .Mult) (rMulX X.K) := op_mul.or (op_rep.or op_repN)
theorem Reps.rep {K : PySem.W.Frag} {p : Addr} {B : Addr → Prop} {H : Hp} {vs : List V} {ds : List D} (r : Reps K p B H vs ds) : ∀ n : Nat, Reps K p B H (List.replicate n vs).flatten (List.replicate n ds).flatten
  | 0 => .nil
  | n + 1 => by
    rw [List.replicate_succ, List.replicate_succ, List.flatten_cons, List.flatten_cons]
    exact r.append (r.rep n)
theorem vr_mulX {K : PySem.W.Frag} {p : Addr} : VR2 K p (rMulX K) mulX := fun B H x y d1 d2 d Q hm r1 r2 e k => by
  unfold mulX at e
  split at e
  · split at e
    · rename_i h
      cases e
      cases r1 with
      | lst hl nb q =>
        refine .inr (.inl ⟨_, _, _, rfl, r2.isInt, hl, by omega, by omega, by rw [q.length]; exact h.2.2, fun b hb => ?_⟩)
        exact k _ _ (same_new hb) ((q.rep _).lst hm hb)
    · cases e
  · split at e
    · rename_i h
      cases e
      cases r1 with
      | tup ht q =>
        refine .inr (.inr ⟨_, _, _, rfl, r2.isInt, ht.t, fun z => h.1 (q.nil_iff.mp z), h.2.1, h.2.2.1, by rw [q.length]; exact h.2.2.2, fun z => ?_, fun z b o ho hb => ?_⟩)
        · subst z
          refine k _ H (Same.refl H) ?_
          simpa using Rep.tup ht q
        · exact k _ _ (same_new hb) ((q.rep _).tup hb ho)
    · cases e
  · exact .inl (vr_int mulI_ok B H x y _ _ d Q hm r1 r2 e k)
end Ip

set_option maxHeartbeats 1000000
/-! IpZ: methods of lists, tuples, dicts. -/
namespace Ip
open PySem L2 PyProof.Rows PySem.SeqAt

inductive MC where
  | lcount | lindex | tindex | dget
def MC.name : MC → Str
  | .lcount => "count"
  | .lindex => "index"
  | .tindex => "index"
  | .dget => "get"
def MC.ty : MC → String
  | .lcount => "list"
  | .lindex => "list"
  | .tindex => "tuple"
  | .dget => "dict"
def MC.id : MC → String
  | .lcount => "list.count"
  | .lindex => "list.index"
  | .tindex => "tuple.index"
  | .dget => "dict.get"
/-- l.count(x) -/
def rCountD (K : PySem.W.Frag) : V → List V → Hp → VK → Prop := fun x xs H Q => ∃ (a : Addr) (y : V) (d : PyData) (ds : List PyData), x = .ref a ∧ xs = [y] ∧ Dp K H (.ref a) (.list ds) ∧ Dp K H y d ∧ shaped (.list ds) = true ∧ shaped d = true ∧ Q (.int (ds.countP fun z => PyData.eqv z d : Nat)) H
/-- t.index(x) -/
def rTIndexD (K : PySem.W.Frag) : V → List V → Hp → VK → Prop := fun x xs H Q => ∃ (a : Addr) (y : V) (d : PyData) (ds : List PyData) (j : Nat) (z : PyData), x = .ref a ∧ xs = [y] ∧ Dp K H (.ref a) (.tuple ds) ∧ Dp K H y d ∧
  shaped (.list ds) = true ∧ shaped d = true ∧ ds[j]? = some z ∧ PyData.eqv z d = true ∧ (∀ (m : Nat) (z' : PyData), m < j → ds[m]? = some z' → PyData.eqv z' d = false) ∧ Q (.int (j : Nat)) H
/-- d.get(k, z) -/
def rGetD : V → List V → Hp → VK → Prop := fun x xs H Q => ∃ (a : Addr) (kvs : List (Key × V)) (k : Key) (z : V), x = .ref a ∧ xs = [kV k, z] ∧ H a = some (.dK kvs) ∧ Q ((valV kvs k).getD z) H
section
variable {X : Cx}
theorem mt_countD (hu : X.A.units + 200 < cLine) : MtR X "list.count" (rCountD X.K) := by
  intro pins s σ H x xs v us Q I rx rxs h
  obtain ⟨a, y, d, ds, rfl, rfl, hl, hy, sl, sd, q⟩ := h
  cases rx
  obtain ⟨uy, rfl, ry⟩ := rxs.one
  obtain ⟨bs, r1⟩ := Dp.reads I d y uy hy ry
  have hxs : PyData.canLayAll0 ds = true := canLay_of_shaped sl
  cases hl with
  | lst hs ha =>
    obtain ⟨its, rv, ⟨⟨cls, dd, data, sls⟩, n, ho, hc, hdn, hdt⟩, hlen⟩ := I.list hs
    simp only at hc hdt
    subst hc hdt
    obtain ⟨as, h4⟩ := Dp.readsAll I ds _ its ha rv
    have hmap : its.map (readOf s.heap) = ds := readsAll_map ds its as hxs h4
    refine call_meets PySem.F.slot_list_count ⟨_, ho, rfl⟩ PySem.F.entry_list_count (PySem.F.args_list_count_2 _ _)
      (SeqAt.list_countAt a its.toArray n dd sls uy (fun u => PyData.eqv (readOf s.heap u) d)) ⟨ho, SeqAt.items_eqAt (vs := its.toArray) (show ReadsAll s.heap its.toArray.toList ds as from h4) r1 hxs (canLay_of_shaped sd) (room_in_shaped sd (by omega)), ?_⟩
    refine ⟨.int _, H, I.tok _, ⟨s.toks, ?_⟩, q⟩
    have e : its.toArray.toList.countP (fun u => PyData.eqv (readOf s.heap u) d) = ds.countP fun z => PyData.eqv z d := by
      rw [← hmap, List.countP_map]
      rfl
    show Value.int ((its.toArray.toList.countP _ : Nat) : Int) s.toks = _
    rw [e]
theorem mt_tindexD (hu : X.A.units + 200 < cLine) : MtR X "tuple.index" (rTIndexD X.K) := by
  intro pins s σ H x xs v us Q I rx rxs h
  obtain ⟨a, y, d, ds, j, z, rfl, rfl, hl, hy, sl, sd, hz, hzj, hno, q⟩ := h
  cases rx
  obtain ⟨uy, rfl, ry⟩ := rxs.one
  obtain ⟨bs, r1⟩ := Dp.reads I d y uy hy ry
  have hxs : PyData.canLayAll0 ds = true := canLay_of_shaped sl
  cases hl with
  | tup hs ha =>
    obtain ⟨its, rv, ⟨⟨cls, dd, data, sls⟩, ho, hc, n, hdt⟩, hlen⟩ := I.tuple hs
    simp only at hc hdt
    subst hc hdt
    obtain ⟨as, h4⟩ := Dp.readsAll I ds _ its ha rv
    have hn : its.length = ds.length := SeqAt.ReadsAll.length ds its as h4
    have hmap : its.map (readOf s.heap) = ds := readsAll_map ds its as hxs h4
    obtain ⟨hjd, _⟩ := List.getElem?_eq_some_iff.mp hz
    have hj : j < its.toArray.size := by rw [List.size_toArray]; omega
    have at_ : ∀ (m : Nat) (hm : m < its.toArray.size) (z' : PyData), ds[m]? = some z' → readOf s.heap its.toArray[m] = z' := by
      intro m hm z' hz'
      have hml : m < its.length := by simpa using hm
      rw [← hmap, List.getElem?_map, List.getElem?_eq_getElem hml] at hz'
      have e1 : readOf s.heap its[m] = z' := Option.some.inj (show some (readOf s.heap its[m]) = some z' from hz')
      simpa using e1
    refine call_meets PySem.F.slot_tuple_index ⟨_, ho, rfl⟩ PySem.F.entry_tuple_index (PySem.F.args_tuple_index_2 _ _)
      (TI.tuple_indexAt a its.toArray n dd sls uy (fun u => PyData.eqv (readOf s.heap u) d) j hj ?_ ?_) ⟨ho, SeqAt.items_eqAt (vs := its.toArray) (show ReadsAll s.heap its.toArray.toList ds as from h4) r1 hxs (canLay_of_shaped sd) (room_in_shaped sd (by omega)), ?_⟩
    · show PyData.eqv (readOf s.heap its.toArray[j]) d = true
      rw [at_ j hj z hz]
      exact hzj
    · intro m hm hmj
      have hmd : m < ds.length := by omega
      have hz' : ds[m]? = some ds[m] := List.getElem?_eq_getElem hmd
      show PyData.eqv (readOf s.heap its.toArray[m]) d = false
      rw [at_ m hm _ hz']
      exact hno m _ hmj hz'
    · exact ⟨.int (j : Nat), H, I.tok _, ⟨_, rfl⟩, q⟩
theorem mt_getD (hu : X.A.units + 200 < cLine) : MtR X "dict.get" rGetD := by
  intro pins s σ H x xs v us Q I rx rxs h
  obtain ⟨a, kvs, k, z, rfl, rfl, hd, q⟩ := h
  cases rx
  obtain ⟨u1, u2, rfl, r1, r2⟩ := rxs.two
  exact d_get2 (by omega) I (DGet.k hd) r1 r2 fun w' s' I' rw' => ⟨_, H, I', rw', q⟩
def MC.r (K : PySem.W.Frag) : MC → V → List V → Hp → VK → Prop
  | .lcount => rCountD K
  | .lindex => rIndexD K
  | .tindex => rTIndexD K
  | .dget => rGetD
/-- the receiver -/
def MC.own (K : PySem.W.Frag) (x : V) (H : Hp) : MC → Prop
  | .lcount => ∃ a xs, x = .ref a ∧ SqL K H a xs
  | .lindex => ∃ a xs, x = .ref a ∧ SqL K H a xs
  | .tindex => ∃ a xs, x = .ref a ∧ SqN K H a xs
  | .dget => ∃ a kvs, x = .ref a ∧ H a = some (.dK kvs)
theorem MC.at {c : MC} {pins : List (Addr × Obj)} {σ : L2.St} {H : Hp} {s : Shared} {x : V} {v : Value} (I : Inv X pins σ H s) (rx : RelV x v) (h : c.own X.K x H) :
    s.TypeIs v c.ty ∧ ∀ a, v = .ref a → ∃ ob, s.heap.get? a = some ob ∧ ob.dict = none := by
  cases c with
  | lcount =>
    obtain ⟨a, xs, rfl, hs⟩ := h
    cases rx
    obtain ⟨its, rv, pl, _⟩ := I.list hs
    obtain ⟨o, n, ho, hc, hdn, hd⟩ := pl
    exact ⟨⟨o, ho, hc⟩, fun b e => by cases e; exact ⟨o, ho, hdn⟩⟩
  | lindex =>
    obtain ⟨a, xs, rfl, hs⟩ := h
    cases rx
    obtain ⟨its, rv, pl, _⟩ := I.list hs
    obtain ⟨o, n, ho, hc, hdn, hd⟩ := pl
    exact ⟨⟨o, ho, hc⟩, fun b e => by cases e; exact ⟨o, ho, hdn⟩⟩
  | tindex =>
    obtain ⟨a, xs, rfl, hs⟩ := h
    cases rx
    obtain ⟨its, rv, ⟨o, n, ho, hc, hdn, hd⟩, _⟩ := SqN.plain I hs
    exact ⟨⟨o, ho, hc⟩, fun b e => by cases e; exact ⟨o, ho, hdn⟩⟩
  | dget =>
    obtain ⟨a, kvs, rfl, hs⟩ := h
    cases rx
    obtain ⟨t1, t2, _⟩ := isD_at I (.inl ⟨kvs, .inl hs⟩)
    exact ⟨t1, t2⟩
theorem MC.rule (hu : X.A.units + 200 < cLine) (c : MC) : PlainAttrs c.ty ∧ Slot c.ty c.name c.id ∧ typeOf (.builtin c.id) = pure (.type "method_descriptor") ∧ MtR X c.id (c.r X.K) := by
  cases c with
  | lcount => exact ⟨PySem.F.plainAttrs_list, PySem.F.slot_list_count, PySem.F.type_list_count, mt_countD hu⟩
  | lindex => exact ⟨PySem.F.plainAttrs_list, PySem.F.slot_list_index, PySem.F.type_list_index, mt_indexD (by omega)⟩
  | tindex => exact ⟨PySem.F.plainAttrs_tuple, PySem.F.slot_tuple_index, PySem.F.type_tuple_index, mt_tindexD hu⟩
  | dget => exact ⟨PySem.F.plainAttrs_dict, PySem.F.slot_dict_get, PySem.F.type_dict_get, mt_getD hu⟩
def tMth (K : PySem.W.Frag) (name : Str) (to : TE) (t : TA) : TE := fun σ H Q => to σ H fun x H1 => ∃ c : MC, c.name = name ∧ c.own K x H1 ∧ t σ H1 fun xs H2 => c.r K x xs H2 Q
theorem pe_mth {o e : Expr} {es : List Expr} {to : TE} {t : TA} {name : Str} {apos cpos : Pos} (hu : X.A.units + 200 < cLine) (ho : PE X o to) (ha : PA X (e :: es) t) (hbase : attributeBase o name X.env (eval o X.env) = eval o X.env)
    (hfew : ((backTo cpos (starEach (e :: es) X.env)).all (fun x => !x.1) && (backToKw cpos (keywordEach [] X.env)).all (fun x => x.1.isSome) && decide ((e :: es).length + ([] : List Keyword).length + (if ([] : List Keyword).isEmpty then 0 else 1) < 30)) = true)
    (hline : (apos.endLine == cpos.line) = true) (hs : starEach (e :: es) X.env = (false, eval e X.env) :: starEach es X.env) (hplain : (backTo cpos (starEach es X.env)).any (·.1) = false) :
    PE X (.Call (.Attribute o name apos) (e :: es) [] cpos) (tMth X.K name to t) := by
  refine ⟨fun pins s σ H Q I h => ?_⟩
  refine wpAny_Call_method_late hbase hfew hline rfl (thn (ho.run pins s σ H _ I h) fun v s1 ⟨x, H1, I1, r1, c, hn, hw, q1⟩ => ?_)
  subst hn
  obtain ⟨t1, t2⟩ := MC.at I1 r1 hw
  obtain ⟨pa, sl, ty, hm⟩ := MC.rule hu c
  refine ⟨c.ty, c.id, pa, sl, ty, t1, t2, ?_⟩
  have hA := ha.run cpos pins s1 σ H1 _ I1 q1
  rw [hs] at hA ⊢
  refine Calls.callWith_builtin (by show (false || (backTo cpos (starEach es X.env)).any (·.1)) = false; rw [hplain] <;> rfl) (Calls.evalArgs_plain ?_)
  exact thn hA fun us s2 ⟨vs, H2, I2, r2, q2⟩ => hm pins s2 σ H2 x vs v us Q I2 r1 r2 q2
end
/-- o.m(..) over data -/
def mthD (name : Str) (d : D) (es : List D) : Option D := match d, es with
  | .lst ds, [e] => if name = ("count" : Str) then (toPys ds).bind fun as => (toPy e).bind fun a => if shaped (.list as) && shaped a then some (.int (as.countP fun z => PyData.eqv z a : Nat)) else none
      else if name = ("index" : Str) then (toPys ds).bind fun as => (toPy e).bind fun a => if shaped (.list as) && shaped a then (as.findIdx? fun z => PyData.eqv z a).map fun (j : Nat) => .int (j : Int) else none
      else none
  | .tup ds, [e] => if name = ("index" : Str) then (toPys ds).bind fun as => (toPy e).bind fun a => if shaped (.list as) && shaped a then (as.findIdx? fun z => PyData.eqv z a).map fun (j : Nat) => .int (j : Int) else none
      else none
  | .dic ks ds, [e, z] => if name = ("get" : Str) then (keyD e).map fun k => (lookK ks ds k).getD z else none
  | _, _ => none
def xMth (name : Str) (f : XM) (g : AM) : XM := fun R env S => (f R env S).bind fun x => (g R env x.2).bind fun y => (mthD name x.1 y.1).map fun d => (d, y.2)
theorem find_at {as : List PyData} {a : PyData} {j : Nat} (h : (as.findIdx? fun z => PyData.eqv z a) = some j) : ∃ z, as[j]? = some z ∧ PyData.eqv z a = true ∧ ∀ (m : Nat) (z' : PyData), m < j → as[m]? = some z' → PyData.eqv z' a = false := by
  obtain ⟨hj, h1, h2⟩ := List.findIdx?_eq_some_iff_getElem.mp h
  refine ⟨as[j], List.getElem?_eq_getElem hj, h1, fun m z' hm hz => ?_⟩
  obtain ⟨hl, e⟩ := List.getElem?_eq_some_iff.mp hz
  have q := h2 m hm
  rw [e] at q
  simpa using q
theorem ie_mth {X : Cx} {p : Addr} {o e : Expr} {es : List Expr} {f : XM} {g : AM} {R : RC} {name : Str} {apos cpos : Pos} (hu : X.A.units + 200 < cLine) (ho : PE X o (tI X.K p (f R))) (ha : PA X (e :: es) (tAI X.K p (g R))) (hbase : attributeBase o name X.env (eval o X.env) = eval o X.env)
    (hfew : ((backTo cpos (starEach (e :: es) X.env)).all (fun x => !x.1) && (backToKw cpos (keywordEach [] X.env)).all (fun x => x.1.isSome) && decide ((e :: es).length + ([] : List Keyword).length + (if ([] : List Keyword).isEmpty then 0 else 1) < 30)) = true)
    (hline : (apos.endLine == cpos.line) = true) (hs : starEach (e :: es) X.env = (false, eval e X.env) :: starEach es X.env) (hplain : (backTo cpos (starEach es X.env)).any (·.1) = false) :
    PE X (.Call (.Attribute o name apos) (e :: es) [] cpos) (tI X.K p (xMth name f g R)) := (pe_mth hu ho ha hbase hfew hline hs hplain).imp fun σ H Q q => by
  obtain ⟨env, S, B0, oa, f0, w, e1, k⟩ := q
  unfold xMth at e1
  obtain ⟨x, ex, e1⟩ := Option.bind_eq_some_iff.mp e1
  obtain ⟨y, ey, e1⟩ := Option.bind_eq_some_iff.mp e1
  obtain ⟨d, ed, rfl⟩ := Option.map_eq_some_iff.mp e1
  refine ⟨env, S, B0, oa, f0, x, ex, fun v H1 f1 k1 r1 => ?_⟩
  have args : ∀ (c : MC), (∀ vs H2, FI X.K p B0 oa env σ H2 y.2 → Keep p H1 H2 → Reps X.K p (Bf B0 p oa) H2 vs y.1 → Rep X.K p (Bf B0 p oa) H2 v x.1 → c.r X.K v vs H2 Q) → tAI X.K p (g R) σ H1 fun xs H2 => c.r X.K v xs H2 Q := fun c h =>
    ⟨env, _, B0, oa, f1, y, ey, fun vs H2 f2 k2 r2 => h vs H2 f2 k2 r2 (r1.keep f1 k2)⟩
  generalize hx : x.1 = dx at ed r1 args
  generalize hy : y.1 = ys at ed args
  have fin : ∀ H2, FI X.K p B0 oa env σ H2 y.2 → Keep p H1 H2 → ∀ z, Rep X.K p (Bf B0 p oa) H2 z d → Q z H2 := fun H2 f2 k2 z r => k z H2 f2 (k1.trans k2) r
  unfold mthD at ed
  split at ed
  · rename_i ds e'
    split at ed
    · rename_i hn
      obtain ⟨as, eas, ed⟩ := Option.bind_eq_some_iff.mp ed
      obtain ⟨a, ea, ed⟩ := Option.bind_eq_some_iff.mp ed
      split at ed
      · rename_i hsh
        obtain ⟨s1, s2⟩ := Bool.and_eq_true_iff.mp hsh
        cases ed
        cases r1 with
        | lst hl nb q =>
          refine ⟨.lcount, hn.symm, ⟨_, _, rfl, .inl (.inl hl)⟩, args .lcount fun vs H2 f2 k2 r2 r3 => ?_⟩
          obtain ⟨u, rfl, r4⟩ := r2.one_inv
          cases r3 with
          | lst hl2 nb2 q2 => exact ⟨_, u, a, as, rfl, rfl, .lst (.inl (.inl hl2)) (Reps.dp _ _ _ q2 eas), r4.dp _ _ _ ea, s1, s2, fin H2 f2 k2 _ (.int _)⟩
      · cases ed
    · split at ed
      · rename_i hn
        obtain ⟨as, eas, ed⟩ := Option.bind_eq_some_iff.mp ed
        obtain ⟨a, ea, ed⟩ := Option.bind_eq_some_iff.mp ed
        split at ed
        · rename_i hsh
          obtain ⟨s1, s2⟩ := Bool.and_eq_true_iff.mp hsh
          obtain ⟨j, ej, rfl⟩ := Option.map_eq_some_iff.mp ed
          obtain ⟨z, hz, hz1, hz2⟩ := find_at ej
          cases r1 with
          | lst hl nb q =>
            refine ⟨.lindex, hn.symm, ⟨_, _, rfl, .inl (.inl hl)⟩, args .lindex fun vs H2 f2 k2 r2 r3 => ?_⟩
            obtain ⟨u, rfl, r4⟩ := r2.one_inv
            cases r3 with
            | lst hl2 nb2 q2 => exact ⟨_, u, a, as, j, z, rfl, rfl, .lst (.inl (.inl hl2)) (Reps.dp _ _ _ q2 eas), r4.dp _ _ _ ea, s1, s2, hz, hz1, hz2, fin H2 f2 k2 _ (.int _)⟩
        · cases ed
      · cases ed
  · rename_i ds e'
    split at ed
    · rename_i hn
      obtain ⟨as, eas, ed⟩ := Option.bind_eq_some_iff.mp ed
      obtain ⟨a, ea, ed⟩ := Option.bind_eq_some_iff.mp ed
      split at ed
      · rename_i hsh
        obtain ⟨s1, s2⟩ := Bool.and_eq_true_iff.mp hsh
        obtain ⟨j, ej, rfl⟩ := Option.map_eq_some_iff.mp ed
        obtain ⟨z, hz, hz1, hz2⟩ := find_at ej
        cases r1 with
        | tup hl q =>
          refine ⟨.tindex, hn.symm, ⟨_, _, rfl, hl⟩, args .tindex fun vs H2 f2 k2 r2 r3 => ?_⟩
          obtain ⟨u, rfl, r4⟩ := r2.one_inv
          cases r3 with
          | tup hl2 q2 => exact ⟨_, u, a, as, j, z, rfl, rfl, .tup hl2.t (Reps.dp _ _ _ q2 eas), r4.dp _ _ _ ea, s1, s2, hz, hz1, hz2, fin H2 f2 k2 _ (.int _)⟩
      · cases ed
    · cases ed
  · rename_i ks ds e' z'
    split at ed
    · rename_i hn
      obtain ⟨kk, ek, rfl⟩ := Option.map_eq_some_iff.mp ed
      cases r1 with
      | dic hl nb nd q =>
        refine ⟨.dget, hn.symm, ⟨_, _, rfl, hl⟩, args .dget fun vs H2 f2 k2 r2 r3 => ?_⟩
        obtain ⟨u1, u2, rfl, r4, r5⟩ := r2.two_inv
        generalize hks : List.map (fun (x : Key × V) => x.1) _ = ks' at r3 fin
        cases r3 with
        | dic hl2 nb2 nd2 q2 =>
          refine ⟨_, _, kk, u2, rfl, by rw [key_rep r4 ek], hl2, fin H2 f2 k2 _ ?_⟩
          obtain ⟨g1, g2⟩ := dk_look (k := kk) q2
          cases e : lookK _ ds kk with
          | none =>
            rw [e] at g2
            have : valV _ kk = none := Option.isSome_eq_false_iff.mp g2.symm |> Option.isNone_iff_eq_none.mp
            rw [this]
            exact r5
          | some d' =>
            obtain ⟨v', ev, rv⟩ := g1 d' e
            rw [ev]
            exact rv
    · cases ed
  · cases ed
end Ip

set_option maxHeartbeats 1000000
/-! IpO: lists and dicts of the frame's own, written. -/
namespace Ip
open PySem L2 PyProof.Rows

def XO := RC → En → List D → Option (D × En × List D)
section
variable {X : Cx} {p : Addr} {e : Expr} {pos : Pos}
/-- a value, and the frame written -/
def tXO (K : PySem.W.Frag) (p : Addr) (f : En → List D → Option (D × En × List D)) : TE := fun σ H Q => ∃ env S B0 oa, FI K p B0 oa env σ H S ∧ ∃ r, f env S = some r ∧
  ∀ v H', FI K p B0 oa r.2.1 σ H' r.2.2 → Mv p oa oa H H' → Rep K p (Bf B0 p oa) H' v r.1 → Q v H'
def xoOf (f : XM) : XO := fun R env S => (f R env S).map fun x => (x.1, env, x.2)
theorem io_of {f : XM} {R : RC} (h : PE X e (tI X.K p (f R))) : PE X e (tXO X.K p (xoOf f R)) := h.imp fun σ H Q q => by
  obtain ⟨env, S, B0, oa, f0, w, e1, k⟩ := q
  unfold xoOf at e1
  obtain ⟨x, ex, rfl⟩ := Option.map_eq_some_iff.mp e1
  exact ⟨env, S, B0, oa, f0, x, ex, fun v H1 f1 k1 r1 => k v H1 f1 (k1.mv f1.pool.some) r1⟩

/-! ### an own list's name, and its call -/
theorem own_lst {K : PySem.W.Frag} {B0 : Addr → Prop} {oa : Oa} {env : En} {σ : L2.St} {H : Hp} {S : List D} (f : FI K p B0 oa env σ H S) {i : Nat} {xs : List D} (h : env[i]? = some (some (.own xs))) :
    ∃ a vs, oa i = some a ∧ σ[i]? = some (some (.ref a)) ∧ H a = some (.lst vs) ∧ Reps K p (Bf B0 p oa) H vs xs := by
  rcases f.has i _ h with ⟨d, e⟩ | ⟨a, ha⟩
  · cases e
  · obtain ⟨e1, x, e2, q⟩ := f.ow i a ha
    rw [h] at e2
    cases e2
    cases q with
    | own e3 r => exact ⟨a, _, ha, e1, e3, r⟩
theorem own_dic {K : PySem.W.Frag} {B0 : Addr → Prop} {oa : Oa} {env : En} {σ : L2.St} {H : Hp} {S : List D} (f : FI K p B0 oa env σ H S) {i : Nat} {ks : List Key} {ds : List D} (h : env[i]? = some (some (.ownD ks ds))) :
    ∃ a kvs, oa i = some a ∧ σ[i]? = some (some (.ref a)) ∧ H a = some (.dK kvs) ∧ kvs.map (·.1) = ks ∧ (kvs.map (·.1)).Nodup ∧ Reps K p (Bf B0 p oa) H (kvs.map (·.2)) ds := by
  rcases f.has i _ h with ⟨d, e⟩ | ⟨a, ha⟩
  · cases e
  · obtain ⟨e1, x, e2, q⟩ := f.ow i a ha
    rw [h] at e2
    generalize hx : SV.ownD ks ds = y at e2
    cases e2
    cases q with
    | own e3 r => cases hx
    | ownD e3 nd r =>
      cases hx
      exact ⟨a, _, ha, e1, e3, rfl, nd, r⟩
/-- an own list's object is written: what was data stays so -/
theorem own_keep {K : PySem.W.Frag} {B0 : Addr → Prop} {oa : Oa} {env : En} {σ : L2.St} {H : Hp} {S : List D} (f : FI K p B0 oa env σ H S) {i : Nat} {a : Addr} (ha : oa i = some a) {o : HO} {v : V} {d : D} (r : Rep K p (Bf B0 p oa) H v d) : Rep K p (Bf B0 p oa) (upd H a o) v d :=
  r.move (fun b u nb q => by rw [upd_ne (fun z : b = a => nb (.inr (.inr ⟨i, by rw [z]; exact ha⟩)))]; exact q) (fun _ q => .inl q) f.mut
theorem owns_keep {K : PySem.W.Frag} {B0 : Addr → Prop} {oa : Oa} {env : En} {σ : L2.St} {H : Hp} {S : List D} (f : FI K p B0 oa env σ H S) {i : Nat} {a : Addr} (ha : oa i = some a) {o : HO} {vs : List V} {ds : List D} (r : Reps K p (Bf B0 p oa) H vs ds) : Reps K p (Bf B0 p oa) (upd H a o) vs ds :=
  r.mono_of fun _ _ q => own_keep f ha q

structure MSide (X : Cx) (o : Expr) (name : Str) (apos : Pos) (es : List Expr) (cpos : Pos) : Prop where
  base : attributeBase o name X.env (eval o X.env) = eval o X.env
  line : (apos.endLine == cpos.line) = true
  few : ((backTo cpos (starEach es X.env)).all (fun x => !x.1) && (backToKw cpos (keywordEach [] X.env)).all (fun x => x.1.isSome) && decide (es.length + ([] : List Keyword).length + (if ([] : List Keyword).isEmpty then 0 else 1) < 30)) = true

/-- x.append(e), x an own list -/
def sApp (i : Nat) (f : XO) : SM := fun R env S => match env[i]? with
  | some (some (.own _)) => (f R env S).bind fun x => match x.2.1[i]? with
    | some (some (.own ys)) => if ys.length < sizeLine then some (.nx, x.2.1.set i (some (.own (ys ++ [x.1]))), x.2.2) else none
    | _ => none
  | _ => none
theorem is_app {i : Nat} {x : Str} {px apos cpos : Pos} {f : XO} {R : RC} (hx : PE X (.Name x px) (tVar i)) (h : PE X e (tXO X.K p (f R))) (m : MSide X (.Name x px) "append" apos [e] cpos) (hs : starEach [e] X.env = (false, eval e X.env) :: starEach [] X.env) :
    PS X (.Expr (.Call (.Attribute (.Name x px) "append" apos) [e] [] cpos) pos) (tIS X.K p (sApp i f R)) := (ps_expr (pe_bm PySem.F.plainAttrs_list PySem.F.slot_list_append PySem.F.type_list_append mt_append hx (pa_cons h pa_nil hs) m.base m.few m.line hs (by rfl)) (by rfl)).imp fun Dn σ H q => by
  obtain ⟨env, S, B0, oa, f0, w, e1, k⟩ := q
  unfold sApp at e1
  split at e1
  · rename_i xs hxs
    obtain ⟨r, er, e1⟩ := Option.bind_eq_some_iff.mp e1
    split at e1
    · rename_i ys hys
      split at e1
      · rename_i hl
        cases e1
        obtain ⟨a, vs, ha, hσ, hH, _⟩ := own_lst f0 hxs
        refine ⟨.ref a, hσ, .inl ⟨rfl, _, .inl (.inl hH)⟩, env, S, B0, oa, f0, r, er, fun v H1 f1 m1 r1 => ?_⟩
        obtain ⟨b, ws, hb, hσ2, hH2, rs⟩ := own_lst f1 hys
        rw [ha] at hb
        cases hb
        refine ⟨a, ws, v, rfl, rfl, hH2, by rw [rs.length]; exact hl, ?_⟩
        have np : a ≠ p := (f1.dis i a ha).2
        refine k σ _ oa (f1.own ha (fun d z => nomatch z) (.own upd_same ((owns_keep f1 ha rs).append (Reps.one (own_keep f1 ha r1))))) (m1.trans (Mv.own ha np))
      · cases e1
    · cases e1
  · cases e1
/-- x.pop(e), x an own list -/
def xPopAt (i : Nat) (f : XM) : XO := fun R env S => match env[i]? with
  | some (some (.own xs)) => (f R env S).bind fun x => match x.1 with
    | .int j => if -(2 ^ 63) ≤ j ∧ j < 2 ^ 63 then (seqIndex? j xs.length).bind fun k => (xs[k]?).map fun d => (d, env.set i (some (.own (xs.eraseIdx k))), x.2) else none
    | _ => none
  | _ => none
theorem Reps.erase {K : PySem.W.Frag} {B : Addr → Prop} {H : Hp} : ∀ {vs : List V} {ds : List D} (k : Nat), Reps K p B H vs ds → Reps K p B H (vs.eraseIdx k) (ds.eraseIdx k)
  | _, _, _, .nil => .nil
  | _, _, 0, .cons _ t => t
  | _, _, k + 1, .cons r t => .cons r (Reps.erase k t)
theorem io_popAt {i : Nat} {x : Str} {px apos cpos : Pos} {f : XM} {R : RC} (hx : PE X (.Name x px) (tVar i)) (h : PE X e (tI X.K p (f R))) (m : MSide X (.Name x px) "pop" apos [e] cpos) (hs : starEach [e] X.env = (false, eval e X.env) :: starEach [] X.env) :
    PE X (.Call (.Attribute (.Name x px) "pop" apos) [e] [] cpos) (tXO X.K p (xPopAt i f R)) := (pe_bm PySem.F.plainAttrs_list PySem.F.slot_list_pop PySem.F.type_list_pop mt_popAt hx (pa_cons h pa_nil hs) m.base m.few m.line hs (by rfl)).imp fun σ H Q q => by
  obtain ⟨env, S, B0, oa, f0, w, e1, k⟩ := q
  unfold xPopAt at e1
  split at e1
  · rename_i xs hxs
    obtain ⟨r, er, e1⟩ := Option.bind_eq_some_iff.mp e1
    split at e1
    · rename_i j hj
      split at e1
      · rename_i hb
        obtain ⟨n, en, e1⟩ := Option.bind_eq_some_iff.mp e1
        obtain ⟨d, ed, rfl⟩ := Option.map_eq_some_iff.mp e1
        obtain ⟨a, vs, ha, hσ, hH, _⟩ := own_lst f0 hxs
        refine ⟨.ref a, hσ, .inl ⟨rfl, _, .inl (.inl hH)⟩, env, S, B0, oa, f0, r, er, fun v H1 f1 k1 r1 => ?_⟩
        rw [hj] at r1
        obtain ⟨b, ws, hb', hσ2, hH2, rs⟩ := own_lst f1 hxs
        rw [ha] at hb'
        cases hb'
        obtain ⟨u, hu, ru⟩ := rs.get ed
        have np : a ≠ p := (f1.dis i a ha).2
        refine ⟨a, ws, j, n, u, rfl, by rw [r1.isInt], hH2, hb.1, hb.2, by rw [rs.length]; exact en, hu, ?_⟩
        exact k u _ (f1.own ha (fun d z => nomatch z) (.own upd_same (owns_keep f1 ha (rs.erase n)))) ((k1.mv f1.pool.some).trans (Mv.own ha np)) (own_keep f1 ha ru)
      · cases e1
    · cases e1
  · cases e1
/-- x.pop() -/
def xPop (i : Nat) : XO := fun _ env S => match env[i]? with
  | some (some (.own xs)) => (xs[xs.length - 1]?).map fun d => (d, env.set i (some (.own xs.dropLast)), S)
  | _ => none
theorem Reps.butLast {K : PySem.W.Frag} {B : Addr → Prop} {H : Hp} {vs : List V} {ds : List D} (r : Reps K p B H vs ds) : Reps K p B H vs.dropLast ds.dropLast := by
  rw [List.dropLast_eq_take, List.dropLast_eq_take, r.length]
  exact r.take _
theorem io_pop {i : Nat} {x : Str} {px apos cpos : Pos} {R : RC} (hx : PE X (.Name x px) (tVar i)) (m : MSide X (.Name x px) "pop" apos [] cpos) :
    PE X (.Call (.Attribute (.Name x px) "pop" apos) [] [] cpos) (tXO X.K p (xPop i R)) := (pe_bm0 PySem.F.plainAttrs_list PySem.F.slot_list_pop PySem.F.type_list_pop mt_pop hx m.base m.line).imp fun σ H Q q => by
  obtain ⟨env, S, B0, oa, f0, w, e1, k⟩ := q
  unfold xPop at e1
  split at e1
  · rename_i xs hxs
    obtain ⟨d, ed, rfl⟩ := Option.map_eq_some_iff.mp e1
    obtain ⟨a, vs, ha, hσ, hH, rs⟩ := own_lst f0 hxs
    obtain ⟨u, hu, ru⟩ := rs.get ed
    have np : a ≠ p := (f0.dis i a ha).2
    refine ⟨.ref a, hσ, .inl ⟨rfl, _, .inl (.inl hH)⟩, a, vs, u, rfl, rfl, hH, by rw [rs.length]; exact hu, ?_⟩
    exact k u _ (f0.own ha (fun d z => nomatch z) (.own upd_same (owns_keep f0 ha rs.butLast))) (Mv.own ha np) (own_keep f0 ha ru)
  · cases e1
/-- a target takes it -/
def sAsgO (t : Tg) (f : XO) : SM := fun R env S => (f R env S).bind fun x => (putT t x.1 x.2.1).map fun env' => (.nx, env', x.2.2)
theorem asgO_I {t : Tg} {g : TG} {f : XO} {R : RC} {K : PySem.W.Frag} (tk : TgOk K p t g) {Dn : Ends} {σ : L2.St} {H : Hp} (q : tIS K p (sAsgO t f R) Dn σ H) : tAsg (tXO K p (f R)) g Dn σ H := by
  obtain ⟨env, S, B0, oa, f0, w, e1, k⟩ := q
  unfold sAsgO at e1
  obtain ⟨x, ex, e1⟩ := Option.bind_eq_some_iff.mp e1
  obtain ⟨env', ee, rfl⟩ := Option.map_eq_some_iff.mp e1
  refine ⟨env, S, B0, oa, f0, x, ex, fun v H1 f1 m1 r1 => ?_⟩
  exact tk B0 oa x.2.1 σ H1 x.2.2 v x.1 env' _ f1 r1 ee fun σ' oa' f' m' _ _ => k σ' H1 oa' f' (m1.trans m')
theorem is_asgO {t : Tg} {g : TG} {tg : Expr} {f : XO} {R : RC} (tk : TgOk X.K p t g) (h : PE X e (tXO X.K p (f R))) (hg : PG X tg g) (hs : swapsWithSole [tg] e pos.line X.env = pure false) (hw : swappedStores [tg] e X.env = pure none)
    (h1 : (assignEach [tg] X.env).map (·.2) = [assign tg X.env]) : PS X (.Assign [tg] e pos) (tIS X.K p (sAsgO t f R)) := (ps_asg h hg hs hw h1).imp fun Dn σ H q => asgO_I tk q
/-- x[k] = e, x an own dict -/
def sKey (i : Nat) (fk fv : XM) : SM := fun R env S => (fv R env S).bind fun v => match env[i]? with
  | some (some (.ownD ks ds)) => (fk R env v.2).bind fun kx => (keyD kx.1).bind fun k => if ks.length < sizeLine then some (.nx, env.set i (some (.ownD ((putD (kdOf ks ds) k v.1).map (·.1)) ((putD (kdOf ks ds) k v.1).map (·.2)))), kx.2) else none
  | _ => none
theorem is_key {i : Nat} {x : Str} {px pos' : Pos} {ke : Expr} {fk fv : XM} {R : RC} (hu : X.A.units + 200 < cLine) (hx : PE X (.Name x px) (tVar i)) (hk : PE X ke (tI X.K p (fk R))) (hv : PE X e (tI X.K p (fv R))) (hs : swapsWith e (some (.Subscript (.Name x px) ke pos')) pos.line X.env = pure false) :
    PS X (.Assign [.Subscript (.Name x px) ke pos'] e pos) (tIS X.K p (sKey i fk fv R)) := (ps_dput (by omega) hx hk hv hs).imp fun Dn σ H q => by
  obtain ⟨env, S, B0, oa, f0, w, e1, k⟩ := q
  unfold sKey at e1
  obtain ⟨v, ev, e1⟩ := Option.bind_eq_some_iff.mp e1
  split at e1
  · rename_i ks ds hks
    obtain ⟨kx, ek, e1⟩ := Option.bind_eq_some_iff.mp e1
    obtain ⟨kk, ekk, e1⟩ := Option.bind_eq_some_iff.mp e1
    split at e1
    · rename_i hl
      cases e1
      refine ⟨env, S, B0, oa, f0, v, ev, fun u H1 f1 k1 r1 => ?_⟩
      obtain ⟨a, kvs, ha, hσ, hH, _⟩ := own_dic f1 hks
      refine ⟨.ref a, hσ, env, _, B0, oa, f1, kx, ek, fun uk H2 f2 k2 r2 => ?_⟩
      obtain ⟨b, kvs2, hb, _, hH2, ek2, nd, rs⟩ := own_dic f2 hks
      rw [ha] at hb
      cases hb
      subst ek2
      have rl := RKD.of rs
      have ru := r1.keep f1 k2
      have rp := rl.put kk ru
      have np : a ≠ p := (f2.dis i a ha).2
      refine ⟨a, _, rfl, by rw [key_rep r2 ekk]; exact DPut.k hH2 (by rw [List.length_map] at hl; exact hl), ?_⟩
      refine k σ _ oa (f2.own ha (fun d z => nomatch z) ?_) (((k1.trans k2).mv f2.pool.some).trans (Mv.own ha np))
      rw [← rp.keys]
      exact .ownD upd_same (nodup_put kk u kvs2 nd) (owns_keep f2 ha rp.vals)
    · cases e1
  · cases e1
end
end Ip

set_option maxHeartbeats 2000000
/-! IpP: comprehensions of two clauses. -/
namespace Ip
open PySem L2

def compL2 (t : Tg) (tt : En → List D → Option (Bool × List D)) (it1 : En → List D → Option (List D × List D)) (t1 : Tg) (tt1 : En → List D → Option (Bool × List D)) (f : En → List D → Option (D × List D)) : List D → En → List D → Option (List D × List D)
  | [], _, S => some ([], S)
  | d :: ds, env, S => (putT t d env).bind fun env1 => (tt env1 S).bind fun b => if b.1 = true then
      if t1.slots.all (notOwn env1) = true then (it1 env1 b.2).bind fun x => (compL t1 tt1 f x.1 (wipeE env1 t1.slots) x.2).bind fun a => (compL2 t tt it1 t1 tt1 f ds env a.2).map fun r => (a.1 ++ r.1, r.2) else none
    else compL2 t tt it1 t1 tt1 f ds env b.2
def lComp2 (it : IM) (t : Tg) (vs : List Nat) (tt : TM) (it1 : IM) (t1 : Tg) (tt1 : TM) (f : XM) : LM := fun R env S => if vs.all (notOwn env) && t.slots.all (fun i => decide (i ∈ vs)) && t1.slots.all (fun i => decide (i ∈ vs)) then
  (it R env S).bind fun x => (compL2 t (tt R) (it1 R) t1 (tt1 R) (f R) x.1 (wipeE env vs) x.2).bind fun r => if r.1.length ≤ sizeLine then some r else none else none

section
variable {K : PySem.W.Frag} {p : Addr}
/-- all but the pool and the list at L -/
def KeepL (p L : Addr) (H H' : Hp) : Prop := ∀ b o, b ≠ p → b ≠ L → H b = some o → H' b = some o
theorem KeepL.trans {L : Addr} {H H1 H2 : Hp} (a : KeepL p L H H1) (b : KeepL p L H1 H2) : KeepL p L H H2 := fun c o n n2 h => b c o n n2 (a c o n n2 h)
theorem Keep.toL {L : Addr} {H H' : Hp} (k : Keep p H H') : KeepL p L H H' := fun b o n _ h => k b o n h
/-- the inner loop -/
theorem loop_run {t : Tg} {g : TG} {vs : List Nat} {tt : TM} {f : XM} {R : RC} (tk : TgOk K p t g) {σ : L2.St} {H1 : Hp} {Nx : Hp → Prop} {B0 : Addr → Prop} {oa : Oa} {env : En} {S : List D} {ds : List D} {J : It} {L : Addr} {acc0 : List V} {done0 : List D}
    (hs : ∀ i ∈ t.slots, i ∈ vs) (ho : ∀ i ∈ vs, oa i = none) {r : List D × List D} (er : compL t (tt R) (f R) ds (wipeE env vs) S = some r) (f1 : FI K p (fun b => B0 b ∨ b = L) oa env σ H1 S) (jk : JOk K p (Bf (fun b => B0 b ∨ b = L) p oa) H1 J ds)
    (hLp : L ≠ p) (hL : H1 L = some (.lst acc0)) (ra0 : Reps K p (Bf (fun b => B0 b ∨ b = L) p oa) H1 acc0 done0) (hz : done0.length + r.1.length ≤ sizeLine)
    (k : ∀ vs' H', FI K p (fun b => B0 b ∨ b = L) oa env σ H' r.2 → KeepL p L H1 H' → H' L = some (.lst vs') → Reps K p (Bf (fun b => B0 b ∨ b = L) p oa) H' vs' (done0 ++ r.1) → Nx H') :
    ∃ W : Nat → Nat → Hp → Prop, (∃ m, W 0 m H1) ∧ ∀ i m H, W i m H →
      (J.stop i H ∧ Nx H) ∨ (J.go i H ∧ ∃ Nx1 : Hp → Prop, (∀ H', Nx1 H' → ∃ m', m' < m ∧ W (i + 1) m' H') ∧ ∀ x H', J.yld i H x H' → g x (wipe σ vs) H' fun σ2 H2 => wipe σ2 vs = wipe σ vs ∧ tTI K p (tt R) σ2 H2 fun b H3 =>
        if b = true then tI K p (f R) σ2 H3 fun y H4 => ∃ acc, H4 L = some (.lst acc) ∧ acc.length < sizeLine ∧ Nx1 (upd H4 L (.lst (acc ++ [y]))) else Nx1 H3) := by
  refine ⟨fun i m H' => i + m = ds.length ∧ ∃ acc done S' rest, FI K p (fun b => B0 b ∨ b = L) oa env σ H' S' ∧ KeepL p L H1 H' ∧ H' L = some (.lst acc) ∧ Reps K p (Bf (fun b => B0 b ∨ b = L) p oa) H' acc (done0 ++ done) ∧
    compL t (tt R) (f R) (ds.drop i) (wipeE env vs) S' = some rest ∧ r = (done ++ rest.1, rest.2), ⟨ds.length, by omega, acc0, [], S, r, f1, (Keep.refl p H1).toL, hL, by rw [List.append_nil]; exact ra0, by rw [List.drop_zero]; exact er, rfl⟩, fun i m H' h => ?_⟩
  obtain ⟨hi, acc, done, S', rest, f', k', eL, ra, er', e'⟩ := h
  have jk' := jk (Bf (fun b => B0 b ∨ b = L) p oa) H' (fun b o nb h => k' b o (fun z => nb (.inr (.inl z))) (fun z => nb (.inl (.inr z))) h) (fun b h => .inl h) f'.mut
  by_cases hx : i < ds.length
  · have eg : ds[i]? = some ds[i] := List.getElem?_eq_getElem hx
    rw [List.drop_eq_getElem_cons hx] at er'
    simp only [compL] at er'
    obtain ⟨env1, ee, er'⟩ := Option.bind_eq_some_iff.mp er'
    obtain ⟨bb, eb, er'⟩ := Option.bind_eq_some_iff.mp er'
    obtain ⟨go, yl⟩ := jk'.2 i _ eg
    refine .inr ⟨go, fun H2 => ∃ acc done S' rest, FI K p (fun b => B0 b ∨ b = L) oa env σ H2 S' ∧ KeepL p L H1 H2 ∧ H2 L = some (.lst acc) ∧ Reps K p (Bf (fun b => B0 b ∨ b = L) p oa) H2 acc (done0 ++ done) ∧
      compL t (tt R) (f R) (ds.drop (i + 1)) (wipeE env vs) S' = some rest ∧ r = (done ++ rest.1, rest.2), fun H2 h2 => ⟨m - 1, by omega, by omega, h2⟩, fun v H2 y => ?_⟩
    obtain ⟨s2, r2⟩ := yl v H2 y
    have fo2 := f'.same s2
    have fw2 := fo2.wipe ho
    refine tk _ oa (wipeE env vs) (wipe σ vs) H2 S' v _ env1 _ fw2 r2 ee fun σ3 oa3 f3 m3 w3 o3 => ?_
    have own3 : ∀ b, Own oa b → Own oa3 b := fun b h => by
      rcases o3 b h with z | ⟨j, hj, z⟩
      · exact z
      · rw [ho j (hs j hj)] at z
        cases z
    have bf3 : ∀ b, Bf (fun b => B0 b ∨ b = L) p oa b → Bf (fun b => B0 b ∨ b = L) p oa3 b := fun b h => by
      rcases h with h | h | h
      · exact .inl h
      · exact .inr (.inl h)
      · exact .inr (.inr (own3 b h))
    refine ⟨by rw [w3 vs hs, wipe_twice], env1, S', _, oa3, f3, bb, eb, fun H3 f4 k4 => ?_⟩
    have back : ∀ {H5 : Hp} {S5 : List D}, Keep p H2 H5 → FI K p (fun b => B0 b ∨ b = L) oa3 env1 σ3 H5 S5 → FI K p (fun b => B0 b ∨ b = L) oa env σ H5 S5 := fun {H5 S5} k5 f5 => by
      obtain ⟨us, e5, r5⟩ := f5.pool
      exact fo2.keep k5 ⟨us, e5, r5.less bf3⟩
    have k2 : KeepL p L H1 H2 := k'.trans (Keep.of s2).toL
    have ra2 := ra.same s2
    by_cases hb : bb.1 = true
    · rw [if_pos hb] at er'
      dsimp only
      rw [if_pos hb]
      obtain ⟨x, ex, er'⟩ := Option.bind_eq_some_iff.mp er'
      obtain ⟨rest2, er2, er'⟩ := Option.map_eq_some_iff.mp er'
      subst er'
      refine ⟨env1, _, _, oa3, f4, x, ex, fun w H4 f5 k5 r5 => ?_⟩
      have k24 : Keep p H2 H4 := k4.trans k5
      have eL4 : H4 L = some (.lst acc) := k24 L _ hLp (s2 L _ eL)
      have f6 := back k24 f5
      have ra4 := ra2.keep fo2 k24
      have ho' : ∀ j, oa j ≠ some L := fun j z => (f6.dis j L z).1 (.inr rfl)
      have f7 : FI K p (fun b => B0 b ∨ b = L) oa env σ (upd H4 L (.lst (acc ++ [w]))) x.2 := f6.wrote hLp trivial ho'
      have ks : ∀ b u, ¬ Bf (fun b => B0 b ∨ b = L) p oa b → H4 b = some u → upd H4 L (.lst (acc ++ [w])) b = some u := fun b u nb q => by
        rw [upd_ne fun z => nb (.inl (.inr z))]
        exact q
      have hacc : acc.length < sizeLine := by
        have e1 := ra.length
        rw [List.length_append] at e1
        rw [e'] at hz
        simp only [List.length_append, List.length_cons] at hz
        omega
      refine ⟨acc, eL4, hacc, acc ++ [w], done ++ [x.1], x.2, rest2, f7, fun b o nb nl q => ?_, upd_same, ?_, er2, ?_⟩
      · rw [upd_ne nl]
        exact (k2.trans k24.toL) b o nb nl q
      · rw [← List.append_assoc]
        exact (ra4.append (Reps.one (r5.less bf3))).move ks (fun _ q => .inl q) f6.mut
      · rw [e', List.append_assoc]
        rfl
    · rw [if_neg hb] at er'
      dsimp only
      rw [if_neg hb]
      refine ⟨acc, done, _, rest, back k4 f4, k2.trans k4.toL, k4 L _ hLp (s2 L _ eL), ra2.keep fo2 k4, er', e'⟩
  · have hl' : i = ds.length := by omega
    subst hl'
    rw [List.drop_length] at er'
    simp only [compL] at er'
    cases er'
    refine .inl ⟨jk'.1, k acc H' ?_ k' eL ?_⟩
    · rw [e']
      exact f'
    · rw [e']
      simpa using ra
theorem comp_tLc2 {it : IM} {t : Tg} {g : TG} {vs : List Nat} {tt : TM} {it1 : IM} {t1 : Tg} {g1 : TG} {tt1 : TM} {f : XM} {R : RC} (tk : TgOk K p t g) (tk1 : TgOk K p t1 g1) {σ : L2.St} {H : Hp} {Q : VK} (q : tLI K p (lComp2 it t vs tt it1 t1 tt1 f R) σ H Q) :
    tLc2 (tII K p (it R)) g (tTI K p (tt R)) (tII K p (it1 R)) g1 (tTI K p (tt1 R)) (tI K p (f R)) vs t1.slots σ H Q := by
  obtain ⟨env, S, B0, oa, f0, w, e1, kQ⟩ := q
  unfold lComp2 at e1
  split at e1
  · rename_i hg
    rw [Bool.and_eq_true, Bool.and_eq_true] at hg
    obtain ⟨⟨hg1, hg2⟩, hg3⟩ := hg
    obtain ⟨x, ex, e1⟩ := Option.bind_eq_some_iff.mp e1
    obtain ⟨r, er, e1⟩ := Option.bind_eq_some_iff.mp e1
    split at e1
    · rename_i hz
      cases e1
      refine ⟨env, S, B0, oa, f0, x, ex, fun J H1 f1 k1 jk => ?_⟩
      have hs : ∀ i ∈ t.slots, i ∈ vs := fun i hi => of_decide_eq_true (List.all_eq_true.mp hg2 i hi)
      have ho : ∀ i ∈ vs, oa i = none := fun i hi => notOwn_oa f1 (List.all_eq_true.mp hg1 i hi)
      intro L hL
      have hLp : L ≠ p := fun z => f1.pool.some (z ▸ hL)
      have f2 : FI K p (fun b => B0 b ∨ b = L) oa env σ (upd H1 L (.lst [])) x.2 := f1.shun hL trivial
      generalize hds : x.1 = ds at er jk
      refine ⟨fun i m H' => i + m = ds.length ∧ ∃ acc done S' rest, FI K p (fun b => B0 b ∨ b = L) oa env σ H' S' ∧ KeepL p L H1 H' ∧ H' L = some (.lst acc) ∧ Reps K p (Bf (fun b => B0 b ∨ b = L) p oa) H' acc done ∧
        compL2 t (tt R) (it1 R) t1 (tt1 R) (f R) (ds.drop i) (wipeE env vs) S' = some rest ∧ w = (done ++ rest.1, rest.2), ⟨ds.length, by omega, [], [], x.2, w, f2, fun b o _ n h => by rw [upd_ne n]; exact h, upd_same, .nil, by rw [List.drop_zero]; exact er, rfl⟩, fun i m H' h => ?_⟩
      obtain ⟨hi, acc, done, S', rest, f', k', eL, ra, er', e'⟩ := h
      have jk' := jk (Bf (fun b => B0 b ∨ b = L) p oa) H' (fun b o nb h => by
        by_cases hb : b = L
        · subst hb
          rw [hL] at h
          cases h
        · exact k' b o (fun z => nb (.inr (.inl z))) hb h) (fun b h => by
        rcases h with (h | h) | h | h
        · exact .inl (.inl h)
        · exact .inr (h ▸ hL)
        · exact .inl (.inr (.inl h))
        · exact .inl (.inr (.inr h))) f'.mut
      by_cases hx : i < ds.length
      · have eg : ds[i]? = some ds[i] := List.getElem?_eq_getElem hx
        rw [List.drop_eq_getElem_cons hx] at er'
        simp only [compL2] at er'
        obtain ⟨env1, ee, er'⟩ := Option.bind_eq_some_iff.mp er'
        obtain ⟨bb, eb, er'⟩ := Option.bind_eq_some_iff.mp er'
        obtain ⟨go, yl⟩ := jk'.2 i _ eg
        refine .inr ⟨go, fun H2 => ∃ acc done S' rest, FI K p (fun b => B0 b ∨ b = L) oa env σ H2 S' ∧ KeepL p L H1 H2 ∧ H2 L = some (.lst acc) ∧ Reps K p (Bf (fun b => B0 b ∨ b = L) p oa) H2 acc done ∧
          compL2 t (tt R) (it1 R) t1 (tt1 R) (f R) (ds.drop (i + 1)) (wipeE env vs) S' = some rest ∧ w = (done ++ rest.1, rest.2), fun H2 h2 => ⟨m - 1, by omega, by omega, h2⟩, fun v H2 y => ?_⟩
        obtain ⟨s2, r2⟩ := yl v H2 y
        have fo2 := f'.same s2
        have fw2 := fo2.wipe ho
        refine tk _ oa (wipeE env vs) (wipe σ vs) H2 S' v _ env1 _ fw2 r2 ee fun σ3 oa3 f3 m3 w3 o3 => ?_
        have own3 : ∀ b, Own oa b → Own oa3 b := fun b h => by
          rcases o3 b h with z | ⟨j, hj, z⟩
          · exact z
          · rw [ho j (hs j hj)] at z
            cases z
        have bf3 : ∀ b, Bf (fun b => B0 b ∨ b = L) p oa b → Bf (fun b => B0 b ∨ b = L) p oa3 b := fun b h => by
          rcases h with h | h | h
          · exact .inl h
          · exact .inr (.inl h)
          · exact .inr (.inr (own3 b h))
        refine ⟨by rw [w3 vs hs, wipe_twice], env1, S', _, oa3, f3, bb, eb, fun H3 f4 k4 => ?_⟩
        have k2 : KeepL p L H1 H2 := k'.trans (Keep.of s2).toL
        have ra2 := ra.same s2
        by_cases hb : bb.1 = true
        · rw [if_pos hb] at er'
          dsimp only
          rw [if_pos hb]
          split at er'
          · rename_i hno
            obtain ⟨x1, ex1, er'⟩ := Option.bind_eq_some_iff.mp er'
            obtain ⟨a, ea, er'⟩ := Option.bind_eq_some_iff.mp er'
            obtain ⟨rest2, er2, er'⟩ := Option.map_eq_some_iff.mp er'
            subst er'
            refine ⟨env1, _, _, oa3, f4, x1, ex1, fun J1 H4 f5 k5 jk1 => ?_⟩
            have k24 : Keep p H2 H4 := k4.trans k5
            have ho1 : ∀ i ∈ t1.slots, oa3 i = none := fun i hi => notOwn_oa f4 (List.all_eq_true.mp hno i hi)
            have m24 : Reps K p (Bf (fun b => B0 b ∨ b = L) p oa) H4 acc done := ra2.keep fo2 k24
            have hbf : ∀ b, Bf (fun b => B0 b ∨ b = L) p oa3 b → Bf (fun b => B0 b ∨ b = L) p oa b ∨ H2 b = none := fun b h => by
              rcases h with h | h | h
              · exact .inl (.inl h)
              · exact .inl (.inr (.inl h))
              · rcases m3.nw b h with z | z
                · exact .inl (.inr (.inr z))
                · exact .inr z
            have ra4 : Reps K p (Bf (fun b => B0 b ∨ b = L) p oa3) H4 acc done := ra2.move (fun b o nb q => k24 b o (fun z => nb (.inr (.inl z))) q) hbf fo2.mut
            refine loop_run tk1 (fun i hi => hi) ho1 ea f5 jk1 hLp (k24 L _ hLp (s2 L _ eL)) ra4 ?_ fun vs' H5 f6 k6 eL5 ra5 => ?_
            · have e1 : w.1.length = done.length + (a.1.length + rest2.1.length) := by rw [e', List.length_append, List.length_append]
              omega
            · obtain ⟨us, e5, r5⟩ := f6.pool
              have k25 : ∀ b o, ¬ Bf (fun b => B0 b ∨ b = L) p oa b → H2 b = some o → H5 b = some o := fun b o nb q => k6 b o (fun z => nb (.inr (.inl z))) (fun z => nb (.inl (.inr z))) (k24 b o (fun z => nb (.inr (.inl z))) q)
              have f7 : FI K p (fun b => B0 b ∨ b = L) oa env σ H5 a.2 := by
                refine ⟨fo2.len, fun i d e => ?_, fun i b e => ?_, fo2.has, fo2.inj, fo2.dis, fun b h => ?_, ⟨us, e5, r5.less bf3⟩⟩
                · obtain ⟨v', e1', r1'⟩ := fo2.sh i d e
                  exact ⟨v', e1', r1'.move k25 (fun _ q => .inl q) fo2.mut⟩
                · obtain ⟨e1', x', e2', q'⟩ := fo2.ow i b e
                  have nL : b ≠ L := fun z => (fo2.dis i b e).1 (.inr z)
                  exact ⟨e1', x', e2', q'.move k25 (fun o q => k6 b o (fo2.dis i b e).2 nL (k24 b o (fo2.dis i b e).2 q)) fo2.mut⟩
                · rcases h with h | h
                  · obtain ⟨o', e1', m'⟩ := f6.b0 b (.inl h)
                    exact ⟨o', e1', m'⟩
                  · rw [h]
                    exact ⟨_, eL5, trivial⟩
              exact ⟨vs', done ++ a.1, a.2, rest2, f7, (k2.trans k24.toL).trans k6, eL5, ra5.less bf3, er2, by rw [e', List.append_assoc]⟩
          · cases er'
        · rw [if_neg hb] at er'
          dsimp only
          rw [if_neg hb]
          obtain ⟨us, e5, r5⟩ := f4.pool
          exact ⟨acc, done, _, rest, fo2.keep k4 ⟨us, e5, r5.less bf3⟩, k2.trans k4.toL, k4 L _ hLp (s2 L _ eL), ra2.keep fo2 k4, er', e'⟩
      · have hl' : i = ds.length := by omega
        subst hl'
        rw [List.drop_length] at er'
        simp only [compL2] at er'
        cases er'
        refine .inl ⟨jk'.1, kQ L acc H' ?_ (fun b o nb h => ?_) ?_ eL ?_⟩
        · rw [e']
          exact f'
        · by_cases hbL : b = L
          · subst hbL
            have q := k1 b o nb h
            rw [hL] at q
            cases q
          · exact k' b o nb hbL (k1 b o nb h)
        · cases hq : H L with
          | none => rfl
          | some o =>
            rw [k1 L o hLp hq] at hL
            cases hL
        · rw [e']
          simpa using ra
    · cases e1
  · cases e1
end
end Ip

set_option maxHeartbeats 2000000
/-! IpR: zip of two, each a list or a tuple. -/
namespace Ip
open PySem L2 PyProof.Rows PySem.W RZ

def SqK (K : PySem.W.Frag) (k : Bool) (H : Hp) (a : Addr) (xs : List V) : Prop := if k = true then SqT K H a xs else SqL K H a xs
def IterK (k : Bool) (h : Heap) (it l : Addr) (i : Nat) : Prop := if k = true then h.IsTupleIter it l i else h.IsListIter it l i
def SeqK (k : Bool) (h : Heap) (l : Addr) (items : Array Value) : Prop := if k = true then h.IsTuple l items else h.IsList l items
theorem IterK.at {k : Bool} {h h' : Heap} {it l : Addr} {i : Nat} (x : IterK k h it l i) (e : ∀ o, h.get? it = some o → h'.get? it = some o) : IterK k h' it l i := by
  cases k
  · exact (show h.IsListIter it l i from x).at e
  · exact (show h.IsTupleIter it l i from x).at e
theorem IterK.obj {k : Bool} {h : Heap} {it l : Addr} {i : Nat} (x : IterK k h it l i) : ∃ o, h.get? it = some o ∧ ∀ v, o.data ≠ .cell v := by
  cases k
  · obtain ⟨o, e, _, d⟩ := (show h.IsListIter it l i from x)
    exact ⟨o, e, fun v q => by rw [d] at q; cases q⟩
  · obtain ⟨o, e, _, d⟩ := (show h.IsTupleIter it l i from x)
    exact ⟨o, e, fun v q => by rw [d] at q; cases q⟩
section
variable {X : Cx} {pins : List (Addr × Obj)} {σ : L2.St} {H : Hp} {s : Shared}
theorem SqK.at (I : Inv X pins σ H s) {k : Bool} {a : Addr} {xs : List V} (h : SqK X.K k H a xs) : ∃ its : List Value, Vals xs its ∧ SeqK k s.heap a its.toArray ∧ a < s.heap.objs.size := by
  cases k
  · obtain ⟨its, rv, p, _⟩ := I.list (show SqL X.K H a xs from h)
    exact ⟨its, rv, p.isList, p.lt⟩
  · obtain ⟨its, rv, p, _⟩ := I.tuple (show SqT X.K H a xs from h)
    obtain ⟨o, ho, _⟩ := id p
    exact ⟨its, rv, p, Heap.lt_size ho⟩
theorem SqK.inj (I : Inv X pins σ H s) {k : Bool} {a : Addr} {xs ys : List V} (h : SqK X.K k H a xs) (h' : SqK X.K k H a ys) : xs = ys := by
  obtain ⟨its, r, e, _⟩ := SqK.at I h
  obtain ⟨its', r', e', _⟩ := SqK.at I h'
  have : its = its' := by
    cases k
    · obtain ⟨o, ho, _, n, hd⟩ := (show s.heap.IsList a its.toArray from e)
      obtain ⟨o', ho', _, n', hd'⟩ := (show s.heap.IsList a its'.toArray from e')
      rw [ho] at ho'
      cases ho'
      rw [hd] at hd'
      exact by simpa using congrArg Array.toList (Data.seq.inj hd').1
    · obtain ⟨o, ho, _, n, hd⟩ := (show s.heap.IsTuple a its.toArray from e)
      obtain ⟨o', ho', _, n', hd'⟩ := (show s.heap.IsTuple a its'.toArray from e')
      rw [ho] at ho'
      cases ho'
      rw [hd] at hd'
      exact by simpa using congrArg Array.toList (Data.seq.inj hd').1
  subst this
  exact Vals.inj r r'
end
theorem drawsK {prog : Program} {w : World} {A : Around} (k : Bool) (hh : A.handled = none) (it l : Addr) (hne : l ≠ it) (items : Array Value) :
    Draws prog w A it [it, l] items.size (fun i v => items[i]? = some v) (fun i h => IterK k h it l i ∧ SeqK k h l items) := by
  cases k
  · exact Draws.list hh it l hne items
  · exact Draws.tuple hh it l hne items
def iterO (k : Bool) (l : Addr) : Obj := if k = true then { cls := .type "tuple_iterator", data := .fields #[.ref l, .int 0 0] } else { cls := .type "list_iterator", data := .fields #[.ref l, .int 0 0] }
theorem beginsK (k : Bool) (l : Addr) (items : Array Value) : Begins (.ref l) (iterO k l) fun h => SeqK k h l items := by
  cases k
  · exact begins_list l items
  · exact begins_tuple l items
theorem iterO_at {k : Bool} {h : Heap} {it l : Addr} (e : h.get? it = some (iterO k l)) : IterK k h it l 0 := by
  cases k
  · exact ⟨_, e, rfl, rfl⟩
  · exact ⟨_, e, rfl, rfl⟩
/-- what each turn gives: a new pair without a dict -/
def ItzX (K : PySem.W.Frag) (k1 k2 : Bool) (a b : Addr) : It :=
  ⟨fun i H => ∃ (xs ys : List V) (x y : V), SqK K k1 H a xs ∧ SqK K k2 H b ys ∧ xs[i]? = some x ∧ ys[i]? = some y,
    fun i H v H' => ∃ (T : Addr) (x y : V) (o : Obj), v = .ref T ∧ H T = none ∧ o.dict = none ∧ H' = upd H T (.frz o (.tup [x, y])) ∧ (∀ xs, SqK K k1 H a xs → xs[i]? = some x) ∧ ∀ ys, SqK K k2 H b ys → ys[i]? = some y,
    fun i H => ∃ xs ys : List V, SqK K k1 H a xs ∧ SqK K k2 H b ys ∧ i ≤ xs.length ∧ i ≤ ys.length ∧ (i = xs.length ∨ i = ys.length)⟩
theorem sepK {z TI TO i1 i2 a b : Addr} (D : ZipApart z TI TO i1 i2 a b) : ZipSep2 z TI TO i1 i2 [i1, a] [i2, b] where
  TIz := D.TIz
  TOz := D.TOz
  TITO := D.TITO
  TIi1 := D.TIi1
  mem1 := by simp
  zf1 := fun h => by
    rcases List.mem_cons.mp h with q | q
    · exact D.i1z q.symm
    · exact D.l1z (List.mem_singleton.mp q).symm
  Tf1 := fun h => by
    rcases List.mem_cons.mp h with q | q
    · exact D.TOi1 q
    · exact D.l1TO (List.mem_singleton.mp q).symm
  TIi2 := D.TIi2
  mem2 := by simp
  zf2 := fun h => by
    rcases List.mem_cons.mp h with q | q
    · exact D.i2z q.symm
    · exact D.l2z (List.mem_singleton.mp q).symm
  Tf2 := fun h => by
    rcases List.mem_cons.mp h with q | q
    · exact D.TOi2 q
    · exact D.l2TO (List.mem_singleton.mp q).symm
  sep1_2 := fun h => by
    rcases List.mem_cons.mp h with q | q
    · exact D.i12 q
    · exact D.l2i1 (List.mem_singleton.mp q).symm
  sep2_1 := fun h => by
    rcases List.mem_cons.mp h with q | q
    · exact D.i12 q.symm
    · exact D.l1i2 (List.mem_singleton.mp q).symm
theorem turn_zipX {P : Program} {w : World} {K : PySem.W.Frag} {elts : List Expr} {kk : Nat} {tpos : Pos} {k1 k2 : Bool} {a b z TI TO i1 i2 : Addr} (D : ZipApart z TI TO i1 i2 a b) :
    Turn P w K (.Tuple elts kk tpos) (ItzX K k1 k2 a b) [z, TI, TO, i1, i2] z (fun i h => IsZip h z TI TO .none ∧ IsTupOf2 h TI (.ref i1) (.ref i2) ∧ (∃ x y, IsTupOf2 h TO x y) ∧ IterK k1 h i1 a i ∧ IterK k2 h i2 b i) where
  mem := by simp
  obj := fun i h st c hc => by
    obtain ⟨hz, hTI, ⟨x, y, hTO⟩, h1, h2⟩ := st
    have e' : c = z ∨ c = TI ∨ c = TO ∨ c = i1 ∨ c = i2 := by simpa using hc
    rcases e' with q | q | q | q | q
    · rw [q]; exact ⟨_, hz, fun v q => nomatch q⟩
    · rw [q]; exact ⟨_, hTI, fun v q => nomatch q⟩
    · rw [q]; exact ⟨_, hTO, fun v q => nomatch q⟩
    · rw [q]; exact h1.obj
    · rw [q]; exact h2.obj
  keep := fun i h h' st k => by
    obtain ⟨hz, hTI, ⟨x, y, hTO⟩, h1, h2⟩ := st
    exact ⟨k z (by simp) _ hz, k TI (by simp) _ hTI, ⟨x, y, k TO (by simp) _ hTO⟩, h1.at fun o q => k i1 (by simp) o q, h2.at fun o q => k i2 (by simp) o q⟩
  item := by
    intro X hP hw hK hc i pins s σ H E I hf st hg
    subst hP hw hK
    obtain ⟨hz, hTI, ⟨x0, y0, hTO⟩, h1, h2⟩ := st
    obtain ⟨xs, ys, x, y, hqx, hqy, hx, hy⟩ := hg
    obtain ⟨its, rv, p, _⟩ := SqK.at I hqx
    obtain ⟨its2, rv2, p2, _⟩ := SqK.at I hqy
    obtain ⟨u, hu, ru⟩ := rv.get hx
    obtain ⟨u2, hu2, ru2⟩ := rv2.get hy
    have hzl : z < s.heap.objs.size := Heap.lt_size hz
    have l1 : i < its.toArray.size := by
      have := (List.getElem?_eq_some_iff.mp hu).1
      simpa using this
    have l2 : i < its2.toArray.size := by
      have := (List.getElem?_eq_some_iff.mp hu2).1
      simpa using this
    refine wpAny_pyNext_zipD2_item (sepK D) (drawsK (A := X.A.in1) k1 (I.ok.hd hc) i1 a D.l1i1 its.toArray) (drawsK (A := X.A.in1) k2 (I.ok.hd hc) i2 b D.l2i2 its2.toArray) hz hTI hTO ⟨h1, p⟩ ⟨h2, p2⟩ l1 l2 fun x1 x2 h' tk e1 e2 z' TO' st1 st2 hT hsz hk => ?_
    have e1 : x1 = u := by
      have q : its[i]? = some x1 := by simpa using e1
      rw [hu] at q
      exact (Option.some.inj q).symm
    have e2 : x2 = u2 := by
      have q : its2[i]? = some x2 := by simpa using e2
      rw [hu2] at q
      exact (Option.some.inj q).symm
    subst e1 e2
    refine ⟨_, rfl, wpAny_letOwnedTupleGo_zip (s := { s with heap := h', toks := tk }) z' fun h'' z'' sb => ?_⟩
    have hT2 : h''.get? s.heap.objs.size = some { cls := .type "tuple", data := .seq #[x1, x2] } := (sb.2 _ (Nat.ne_of_gt hzl)).trans hT
    have I1 : Inv X pins σ (upd H s.heap.objs.size (.frz { cls := .type "tuple", data := .seq #[x1, x2] } (.tup [x, y]))) { s with heap := h'', toks := tk } :=
      I.turnedNew (t' := tk) (ch := [z, TI, TO, i1, i2]) (fun c o hb q => (sb.2 c (fun q' => hb (by simp [q']))).trans (hk c o (fun q' => hb (by simp [q'])) (fun q' => hb (by simp [q'])) (fun q' => hb (by simp [q'])) (fun q' => hb (by simp [q'])) q)) hf (Nat.le_refl _)
        ⟨hT2, by show 2 ≤ sizeLine; decide, [x1, x2], .cons ru (.cons ru2 .nil), ⟨_, hT2, rfl, _, rfl⟩⟩
    refine ⟨.ref s.heap.objs.size, _, I1, rfl, ⟨_, x, y, _, rfl, I.hok.fresh (Nat.le_refl _), rfl, rfl, fun l hl => by rw [SqK.inj I hl hqx]; exact hx, fun l hl => by rw [SqK.inj I hl hqy]; exact hy⟩, ⟨z'', ?_, ⟨x1, x2, ?_⟩, ?_, ?_⟩, fun c hcm => ?_⟩
    · exact (sb.2 _ D.TIz).trans (hk _ _ D.TIz D.TITO D.TIi1 D.TIi2 hTI)
    · exact (sb.2 _ D.TOz).trans TO'
    · exact st1.1.at fun o q => (sb.2 _ D.i1z).trans q
    · exact st2.1.at fun o q => (sb.2 _ D.i2z).trans q
    · have hlt : c < s.heap.objs.size := by
        have e' : c = z ∨ c = TI ∨ c = TO ∨ c = i1 ∨ c = i2 := by simpa using hcm
        rcases e' with q | q | q | q | q
        · rw [q]; exact hzl
        · rw [q]; exact Heap.lt_size hTI
        · rw [q]; exact Heap.lt_size hTO
        · rw [q]; obtain ⟨_, e1, _⟩ := h1.obj; exact Heap.lt_size e1
        · rw [q]; obtain ⟨_, e2, _⟩ := h2.obj; exact Heap.lt_size e2
      rw [upd_ne (Nat.ne_of_lt hlt)]
      exact (hf c hcm).1
  done := by
    intro X hP hw hK hc i pins s σ H E I hf st hg
    subst hP hw hK
    obtain ⟨hz, hTI, ⟨x0, y0, hTO⟩, h1, h2⟩ := st
    obtain ⟨xs, ys, hqx, hqy, le1, le2, hend⟩ := hg
    obtain ⟨its, rv, p, _⟩ := SqK.at I hqx
    obtain ⟨its2, rv2, p2, _⟩ := SqK.at I hqy
    have l1 := rv.length
    have l2 := rv2.length
    exact wpAny_pyNext_zipD2_end (sepK D) (drawsK (A := X.A.in1) k1 (I.ok.hd hc) i1 a D.l1i1 its.toArray) (drawsK (A := X.A.in1) k2 (I.ok.hd hc) i2 b D.l2i2 its2.toArray) hz hTI hTO ⟨h1, p⟩ ⟨h2, p2⟩ (by rw [List.size_toArray]; omega) (by rw [List.size_toArray]; omega) (by simp only [List.size_toArray]; omega) fun h' tk hk =>
      ⟨rfl, I.turnedL (t' := tk) (ch := [z, TI, TO, i1, i2]) (fun c o hb q => hk c o (fun q' => hb (by simp [q'])) (fun q' => hb (by simp [q'])) (fun q' => hb (by simp [q'])) (fun q' => hb (by simp [q'])) q) hf⟩
  self := fun A i s Q E st h => wpAny_pyIter_zip st.1 h
def iZipX (K : PySem.W.Frag) (ta : TA) : TI := fun σ H R => ta σ H fun vs H1 => ∃ (k1 k2 : Bool) (a b : Addr) (xs ys : List V), vs = [.ref a, .ref b] ∧ SqK K k1 H1 a xs ∧ SqK K k2 H1 b ys ∧ R (ItzX K k1 k2 a b) H1
theorem pi_zipX {X : Cx} {e e2 : Expr} {ta : TA} {p pos tpos : Pos} {elts : List Expr} {kk : Nat} (hg : Gl X "zip") (hm : X.mg "zip" = none) (ha : PA X [e, e2] ta)
    (hs : starEach [e, e2] X.env = (false, eval e X.env) :: starEach [e2] X.env) (hpl : (backTo pos (starEach [e2] X.env)).any (·.1) = false) :
    PI X (.Tuple elts kk tpos) (.Call (.Name "zip" p) [e, e2] [] pos) (iZipX X.K ta) := by
  refine ⟨fun pins s σ H R I h => ?_⟩
  refine Call_ (ld_blt I hg hm PyProof.Rows.boot_zip (PyProof.Rows.callWith_type1 (thn (ha.run pos pins s σ H _ I h) fun us s1 ⟨vs, H1, I1, r1, q1⟩ => ?_) hs hpl))
  obtain ⟨k1, k2, a, b, xs, ys, rfl, hqx, hqy, q⟩ := q1
  obtain ⟨u1, u2, rfl, r, r'⟩ := r1.two
  cases r
  cases r'
  obtain ⟨its, rv, p1, la⟩ := SqK.at I1 hqx
  obtain ⟨its2, rv2, p2, lb⟩ := SqK.at I1 hqy
  refine zip_begins2 (beginsK k1 a its.toArray) (beginsK k2 b its2.toArray) p1 p2 fun h' hz hTI hTO h1 h2 hsz hk => wpAny_pyIter_zip hz ?_
  have I2 : Inv X pins σ H1 { s1 with heap := h' } := I1.kept (t' := s1.toks) hk
  refine ⟨s1.heap.objs.size + 4, [s1.heap.objs.size + 4, s1.heap.objs.size + 2, s1.heap.objs.size + 3, s1.heap.objs.size, s1.heap.objs.size + 1], _, _, H1, rfl, I2, turn_zipX (PySem.W.ktu_apart s1.heap.objs.size a b la lb), ⟨hz, hTI, ⟨_, _, hTO⟩, iterO_at h1, iterO_at h2⟩, fun c hcm => ?_, q⟩
  have e' : c = s1.heap.objs.size + 4 ∨ c = s1.heap.objs.size + 2 ∨ c = s1.heap.objs.size + 3 ∨ c = s1.heap.objs.size ∨ c = s1.heap.objs.size + 1 := by simpa using hcm
  have hle : s1.heap.objs.size ≤ c := by
    rcases e' with z | z | z | z | z <;> rw [z] <;> first
      | exact Nat.le_refl _
      | exact Nat.le_add_right _ _
  exact I1.fpOk hle (I1.hok.fresh hle)
/-! ### over data -/
def zipD : List D → Option (List D)
  | [d, e] => match d, e with
    | .lst xs, .lst ys => some ((xs.zip ys).map fun z => .tup [z.1, z.2])
    | .lst xs, .tup ys => some ((xs.zip ys).map fun z => .tup [z.1, z.2])
    | .tup xs, .lst ys => some ((xs.zip ys).map fun z => .tup [z.1, z.2])
    | .tup xs, .tup ys => some ((xs.zip ys).map fun z => .tup [z.1, z.2])
    | _, _ => none
  | _ => none
/-- a list or a tuple -/
def seqD : D → Option (Bool × List D)
  | .lst xs => some (false, xs)
  | .tup xs => some (true, xs)
  | _ => none
theorem seq_rep {K : PySem.W.Frag} {p : Addr} {B : Addr → Prop} {H : Hp} {v : V} {d : D} {k : Bool} {xs : List D} (r : Rep K p B H v d) (h : seqD d = some (k, xs)) : ∃ a vs, v = .ref a ∧ Reps K p B H vs xs ∧
    ∀ (B' : Addr → Prop) (H' : Hp), (∀ b o, ¬ B b → H b = some o → H' b = some o) → HM B H → SqK K k H' a vs := by
  cases d <;> simp only [seqD] at h <;> first
    | cases h; done
    | skip
  · cases h
    cases r with
    | tup hs q =>
      refine ⟨_, _, rfl, q, fun B' H' kk hm => ?_⟩
      exact sqT_move hs.t kk hm
  · cases h
    cases r with
    | lst hs nb q => exact ⟨_, _, rfl, q, fun B' H' kk hm => .inl (.inl (kk _ _ nb hs))⟩
theorem jok_zip {K : PySem.W.Frag} {p : Addr} {B : Addr → Prop} {H1 : Hp} {k1 k2 : Bool} {a b : Addr} {vs ws : List V} {xs ys : List D} (r1 : Reps K p B H1 vs xs) (r2 : Reps K p B H1 ws ys) (hm : HM B H1)
    (h1 : ∀ H' : Hp, (∀ b o, ¬ B b → H1 b = some o → H' b = some o) → SqK K k1 H' a vs) (h2 : ∀ H' : Hp, (∀ b o, ¬ B b → H1 b = some o → H' b = some o) → SqK K k2 H' b ws) :
    JOk K p B H1 (ItzX K k1 k2 a b) ((xs.zip ys).map fun z => .tup [z.1, z.2]) := fun B' H k hb hm' => by
  have q1 := h1 H k
  have q2 := h2 H k
  have s1 : Reps K p B' H vs xs := r1.move k hb hm
  have s2 : Reps K p B' H ws ys := r2.move k hb hm
  have e1 := r1.length
  have e2 := r2.length
  refine ⟨⟨vs, ws, q1, q2, ?_⟩, fun i d e => ?_⟩
  · rw [List.length_map, List.length_zip, e1, e2]
    omega
  · rw [List.getElem?_map] at e
    obtain ⟨⟨x, y⟩, ez, rfl⟩ := Option.map_eq_some_iff.mp e
    rw [List.getElem?_zip_eq_some] at ez
    obtain ⟨v, ev, rv⟩ := s1.get ez.1
    obtain ⟨w, ew, rw'⟩ := s2.get ez.2
    refine ⟨⟨vs, ws, v, w, q1, q2, ev, ew⟩, fun z H' y' => ?_⟩
    obtain ⟨T, v', w', o, rfl, hT, ho, rfl, f1, f2⟩ := y'
    have z1 := f1 vs q1
    have z2 := f2 ws q2
    rw [ev] at z1
    rw [ew] at z2
    cases z1
    cases z2
    exact ⟨same_new hT, (Reps.cons rv (Reps.one rw')).tup hT ho⟩
theorem ii_zip {X : Cx} {p : Addr} {e e2 : Expr} {f : AM} {R : RC} {q pos tpos : Pos} {elts : List Expr} {kk : Nat} (hg : Gl X "zip") (hm : X.mg "zip" = none) (ha : PA X [e, e2] (tAI X.K p (f R)))
    (hs : starEach [e, e2] X.env = (false, eval e X.env) :: starEach [e2] X.env) (hpl : (backTo pos (starEach [e2] X.env)).any (·.1) = false) :
    PI X (.Tuple elts kk tpos) (.Call (.Name "zip" q) [e, e2] [] pos) (tII X.K p (iArg zipD f R)) := (pi_zipX hg hm ha hs hpl).imp fun σ H R' q => by
  obtain ⟨env, S, B0, oa, f0, w, e1, k⟩ := q
  unfold iArg at e1
  obtain ⟨x, ex, e1⟩ := Option.bind_eq_some_iff.mp e1
  obtain ⟨ds, ed, e1⟩ := Option.map_eq_some_iff.mp e1
  subst e1
  refine ⟨env, S, B0, oa, f0, x, ex, fun vs H1 f1 k1 r1 => ?_⟩
  generalize x.1 = as at r1 ed
  have key : ∀ d e' k1' k2' xs ys, as = [d, e'] → seqD d = some (k1', xs) → seqD e' = some (k2', ys) → ds = (xs.zip ys).map (fun z => D.tup [z.1, z.2]) → iZipX X.K (fun σ H Q => Q vs H1) σ H R' := fun d e' k1' k2' xs ys ea hd he hds => by
    subst ea hds
    obtain ⟨v, w', rfl, q1, q2⟩ := r1.two_inv
    obtain ⟨a, ws1, rfl, s1, g1⟩ := seq_rep q1 hd
    obtain ⟨b, ws2, rfl, s2, g2⟩ := seq_rep q2 he
    exact ⟨k1', k2', a, b, ws1, ws2, rfl, g1 (Bf B0 p oa) H1 (fun _ _ _ h => h) f1.mut, g2 (Bf B0 p oa) H1 (fun _ _ _ h => h) f1.mut, k _ H1 f1 k1 (jok_zip s1 s2 f1.mut (fun H' kk => g1 (Bf B0 p oa) H' kk f1.mut) fun H' kk => g2 (Bf B0 p oa) H' kk f1.mut)⟩
  unfold zipD at ed
  split at ed
  · split at ed
    · cases ed; exact key _ _ _ _ _ _ rfl rfl rfl rfl
    · cases ed; exact key _ _ _ _ _ _ rfl rfl rfl rfl
    · cases ed; exact key _ _ _ _ _ _ rfl rfl rfl rfl
    · cases ed; exact key _ _ _ _ _ _ rfl rfl rfl rfl
    · cases ed
  · cases ed
end Ip

set_option maxHeartbeats 1000000
/-! IpM: dict displays, {**d, k: v}. -/
namespace PySem
open Sem (wp)
section
variable {prog : Program} {w : World} {K : Type} [DecidableEq K] {knd : KeyKind prog w K} {A : Around} {E : Value → Shared → Prop} {s : Shared}
theorem ip_dictPut {d : Addr} {kvs : List (K × Value)} {k : K} {key v : Value} {Q : Unit → Shared → Prop} (hkey : knd.is k key = true) (hm : s.heap.DictOf knd d kvs)
    (hQ : ∀ h', h'.DictOf knd d (stored kvs k v) → Heap.SameBut d s.heap h' → Q () { s with heap := h' })
    (hsz : kvs.length ≤ sizeLine) :
    wpAny (model prog w) A (dictPut d (knd.hash k) key v) Q E s := by
  obtain ⟨o, es, ep, ho, hc, hd, hk, hp, hn⟩ := hm
  have hes : es.size ≤ sizeLine := by
    have e1 := hp.length
    have e2 : es.toList.length = es.size := by simp
    omega
  unfold dictPut
  refine wpAny_bind (wpAny_dictFind_of hkey ho hd hk ?_)
  have hidx : (es.findIdx? fun e => knd.is k e.key) = kvs.findIdx? fun kv => decide (kv.1 = k) := by
    rw [← hp.findIdx k]; obtain ⟨l⟩ := es; simp
  cases hi : es.findIdx? fun e => knd.is k e.key with
  | some i =>
    refine wpAny_updateDict ho hd (hQ _ ⟨_, _, ep, Heap.get?_update_self _ ho (Obj.isFreed_of_dict (Obj.data_mapDict hd _)),
      hc.mapDict _, Obj.data_mapDict hd _, hk.modify _ _, ?_, ?_⟩ (Heap.SameBut.update ..))
    · rw [stored, if_pos (any_of_findIdx_some (hidx ▸ hi))]
      have hl : (es.toList.findIdx? fun e => knd.is k e.key) = some i := by rw [← hi]; obtain ⟨l⟩ := es; simp
      have := hp.modify hn hl v
      obtain ⟨l⟩ := es
      simpa using this
    · rw [stored, if_pos (any_of_findIdx_some (hidx ▸ hi)), keys_map_store]; exact hn
  | none =>
    have hnot : k ∉ kvs.map (·.1) := not_mem_of_findIdx_none (hidx ▸ hi)
    have hany : ¬ (kvs.any fun kv => decide (kv.1 = k)) = true := by
      rw [List.any_eq_true]; rintro ⟨kv, hkv, he⟩
      exact hnot (List.mem_map.mpr ⟨kv, hkv, of_decide_eq_true he⟩)
    refine wpAny_updateDictKeys (hz := hes) ho hd (hQ _ ⟨_, _, ep + 1, Heap.get?_update_self _ ho (Obj.isFreed_of_dict (Obj.data_mapDictKeys hd _)),
      hc.mapDictKeys _, Obj.data_mapDictKeys hd _, hk.push hkey _, ?_, ?_⟩ (Heap.SameBut.update ..))
    · rw [stored, if_neg hany]
      have := hp.append hkey (knd.hash k) v
      obtain ⟨l⟩ := es
      simpa using this
    · rw [stored, if_neg hany, List.map_append, List.nodup_append]
      refine ⟨hn, by simp, ?_⟩
      intro a ha b hb
      simp only [List.map_cons, List.map_nil, List.mem_singleton] at hb
      subst hb
      exact fun e => hnot (e ▸ ha)
theorem ip_mergeMapping {d o : Addr} {kvs more : List (K × Value)} {Q : Unit → Shared → Prop} (hdo : d ≠ o) (hoS : (o == sysModules) = false)
    (hd : s.heap.DictOf knd d kvs) (ho : s.heap.DictOf knd o more)
    (hQ : ∀ h', h'.DictOf knd d (merged kvs more) → h'.DictOf knd o more → Heap.SameBut d s.heap h' → Q () { s with heap := h' })
    (hsz : kvs.length + more.length ≤ sizeLine) :
    wpAny (model prog w) A (mergeMapping d (.ref o) false) Q E s := by
  obtain ⟨od, esd, epd, hod, hcd, hdd, hkd, hpd, hnd⟩ := id hd
  obtain ⟨oo, eso, epo, hoo, hco, hdo', hko, hpo, hno⟩ := id ho
  have hlen : more.length = eso.size := by rw [← hpo.length]; simp
  unfold mergeMapping
  refine wpAny_bind (wpAny_isInstance ho.typeIs isSubtype_dict_dict ?_)
  rw [if_pos rfl]
  refine wpAny_bind (wpAny_specialOf ho.typeIs F.slot_dict_iter.lookup ?_)
  refine wpAny_bind (wpAny_pure ?_)
  simp only [beq_self_eq_true]
  rw [if_neg (by rw [hoS]; exact Bool.false_ne_true)]
  have loop : wpAny (model prog w) A (do
      let l ← dictEntries o
      let epoch ← dictEpoch o
      forIn (List.range l.size) PUnit.unit fun i (_ : PUnit) => (do
          let l' ← dictEntries o
          match l'[i]? with
            | some e => do
              holding [e.key, e.val] (dictPut d e.hash e.key e.val)
              let ep' ← dictEpoch o
              if (ep' != epoch) = true then do
                  (unsupported "dict.changed-during-merge" : Sem PUnit)
                  pure (ForInStep.yield PUnit.unit)
                else pure (ForInStep.yield PUnit.unit)
            | _ => do
              (unsupported "dict.changed-during-merge" : Sem PUnit)
              pure (ForInStep.yield PUnit.unit) : Sem (ForInStep PUnit))
      pure ()) Q E s := by
    refine wpAny_bind (wpAny_dictEntries hoo hdo' ?_)
    refine wpAny_bind (wpAny_dictEpoch hoo hdo' ?_)
    refine wpAny_bind ?_
    refine wpAny_forIn_list _
      (fun rest _ s' => ∃ h' i, s' = { s with heap := h' } ∧ rest = List.range' i (eso.size - i) ∧ i ≤ eso.size ∧ h'.DictOf knd d (merged kvs (more.take i)) ∧ h'.get? o = some oo ∧ Heap.SameBut d s.heap h')
      _ ?_ ?_ _ _ ⟨s.heap, 0, rfl, by rw [List.range_eq_range', Nat.sub_zero], Nat.zero_le _, by simpa [merged] using hd, hoo, Heap.SameBut.refl _ _⟩
    · rintro x rest b s' ⟨h', i, rfl, hr, hi, hd', hoo', hs'⟩
      have hlt : i < eso.size := by
        rcases Nat.lt_or_ge i eso.size with h | h
        · exact h
        · rw [Nat.sub_eq_zero_of_le h] at hr; simp at hr
      obtain ⟨rfl, hrest⟩ : x = i ∧ rest = List.range' (i + 1) (eso.size - (i + 1)) := by
        have e : eso.size - i = (eso.size - (i + 1)) + 1 := by omega
        rw [e, List.range'_succ] at hr
        injection hr with h1 h2
        exact ⟨h1, h2⟩
      refine wpAny_bind (wpAny_dictEntries hoo' hdo' ?_)
      rw [Array.getElem?_eq_getElem hlt]
      obtain ⟨kv, hkv⟩ : ∃ kv, more[x]? = some kv := ⟨more[x]'(by rw [hlen]; exact hlt), List.getElem?_eq_getElem _⟩
      obtain ⟨k, v⟩ := kv
      obtain ⟨hkey, hval⟩ := hpo.get? (e := eso[x]) (by simp [hlt]) hkv
      obtain ⟨k', hkey', hhash⟩ := hko eso[x] (Array.getElem_mem hlt)
      obtain rfl : k' = k := knd.inj _ _ _ hkey' hkey
      show wpAny _ _ (holding [eso[x].key, eso[x].val] (dictPut d eso[x].hash eso[x].key eso[x].val) >>= _) _ _ _
      rw [hhash, hval]
      have hmx : (merged kvs (more.take x)).length ≤ sizeLine := by
        have e1 := merged_length_le kvs (more.take x)
        have e2 : (more.take x).length ≤ more.length := by rw [List.length_take]; omega
        omega
      refine wpAny_bind (wpAny_holding (ip_dictPut (hsz := hmx) hkey hd' fun h'' hd'' hs'' => ?_))
      have hoo'' : h''.get? o = some oo := (hs''.2 o (Ne.symm hdo)).trans hoo'
      refine wpAny_bind (wpAny_dictEpoch hoo'' hdo' ?_)
      rw [if_neg (by simp)]
      exact wpAny_pure ⟨h'', x + 1, rfl, hrest, hlt, by rw [merged_take_succ kvs more x (k', v) hkv]; exact hd'', hoo'', hs'.trans hs''⟩
    · rintro b s' ⟨h', i, rfl, hr, hi, hd', hoo', hs'⟩
      have hin : i = eso.size := by
        rcases Nat.lt_or_ge i eso.size with h | h
        · have e : eso.size - i = (eso.size - (i + 1)) + 1 := by omega
          rw [e, List.range'_succ] at hr; exact nomatch hr
        · exact Nat.le_antisymm hi h
      refine wpAny_pure (hQ h' ?_ ⟨oo, eso, epo, hoo', hco, hdo', hko, hpo, hno⟩ hs')
      rw [hin, ← hlen, List.take_length] at hd'; exact hd'
  refine wpAny_bind (wpAny_dictEntries hod hdd ?_)
  split
  · refine wpAny_bind (wpAny_dictEntries hoo hdo' ?_)
    have hloop : ∀ f : DictEntry → PUnit → Sem (ForInStep PUnit), (∀ e ∈ eso.toList, f e PUnit.unit = pure (ForInStep.yield PUnit.unit)) → (forIn eso PUnit.unit f) = pure PUnit.unit := fun f hf => by
      rw [← Array.forIn_toList]
      exact forIn_yield_id _ fun e he c => hf e he
    rw [hloop _ fun e he => ?_]
    · exact loop
    · obtain ⟨k, hkey, _⟩ := hko e (Array.mem_toList_iff.mp he)
      have hb := knd.byValue k _ hkey
      split
      · rename_i heq
        rw [heq] at hb
        cases hb
      · rfl
  · exact loop
/-- {**m, k: v} -/
theorem ip_star {m k v : Sem Value} {Q : Value → Shared → Prop} (h : wpAny (model prog w) A m (fun mv s1 => ∃ a kvs, mv = .ref a ∧ (a == sysModules) = false ∧ a ≠ s.heap.objs.size ∧ s1.heap.DictOf knd s.heap.objs.size [] ∧ s1.heap.DictOf knd a kvs ∧ kvs.length < sizeLine ∧
      ∀ h', h'.DictOf knd s.heap.objs.size kvs → Heap.SameBut s.heap.objs.size s1.heap h' → wpAny (model prog w) A k (fun kv s2 => wpAny (model prog w) A v (fun vv s3 => ∃ key kvs3, knd.is key kv = true ∧ kvs3.length < sizeLine ∧ s3.heap.DictOf knd s.heap.objs.size kvs3 ∧ s3.heap.DictOf knd h'.objs.size [] ∧
          s.heap.objs.size ≠ h'.objs.size ∧ (h'.objs.size == sysModules) = false ∧
          ∀ h4, h4.DictOf knd h'.objs.size [(key, vv)] → Heap.SameBut h'.objs.size s3.heap h4 → ∀ h5, h5.DictOf knd s.heap.objs.size (stored kvs3 key vv) → Heap.SameBut s.heap.objs.size h4 h5 → Q (.ref s.heap.objs.size) { s3 with heap := h5, toks := s3.toks + 1 }) E s2) E { s1 with heap := h'.push { cls := .type "dict", data := .dict #[] } }) E { s with heap := s.heap.push { cls := .type "dict", data := .dict #[] } }) :
    wpAny (model prog w) A (dictDisplay [(none, m), (some k, v)]) Q E s := by
  unfold dictDisplay
  simp only [List.forIn_cons, List.forIn_nil, List.isEmpty_nil, if_true, bind_assoc, pure_bind, List.nil_append, List.length_cons, List.length_nil, Nat.zero_add, Nat.reduceBEq, Bool.false_eq_true, if_false, List.isEmpty_cons]
  refine wpAny_bind (wpAny_alloc ?_)
  refine wpAny_bind (wpAny_holding (wpAny_mono h (fun mv s1 h1 => ?_) fun _ _ e => e))
  obtain ⟨a, kvs, rfl, ha, hne, hd, hm, hl, h1⟩ := h1
  have hnd : (kvs.map (·.1)).Nodup := by
    obtain ⟨_, _, _, _, _, _, _, _, hn⟩ := hm
    exact hn
  refine wpAny_bind (wpAny_onRaise (wpAny_tryCatch (wpAny_onRaise (wpAny_holding (ip_mergeMapping (knd := knd) (Ne.symm hne) ha hd hm (fun h' hd' _ hs' => ?_) (by rw [List.length_nil]; omega))))))
  rw [merged_nil_of_nodup _ hnd] at hd'
  refine wpAny_bind (wpAny_holding (wpAny_subDict (knd := knd) (by simp) (evalPairs_cons (wpAny_mono (h1 h' hd' hs') (fun kv s2 h2 => wpAny_mono h2 (fun vv s3 h3 => evalPairs_nil ?_) fun _ _ e => e) fun _ _ e => e))))
  obtain ⟨key, kvs3, hk, hl3, hd3, hs3, hne3, hsm, h3⟩ := h3
  refine ⟨[(key, vv)], ⟨hk, rfl, trivial⟩, hs3, fun h4 hd4 hs4 => ?_⟩
  have hd4 : h4.DictOf knd h'.objs.size [(key, vv)] := hd4
  have hs4 : Heap.SameBut h'.objs.size s3.heap h4 := hs4
  refine wpAny_bind (wpAny_onRaise (wpAny_holding (ip_mergeMapping (knd := knd) hne3 hsm (hd3.sameBut hs4 hne3) hd4 (fun h5 hd5 _ hs5 => ?_) (by simp; omega))))
  exact wpAny_pure (h3 h4 hd4 hs4 h5 hd5 hs5)
end
end PySem
namespace L2
open PySem
section
variable {X : Cx} {pos : Pos}
/-- {**m, k: v} -/
def tStar (tm tk tv : TE) : TE := fun σ H Q => ∀ d, H d = none → tm σ (upd H d (.dK [])) fun x H1 => ∃ a kvs, x = .ref a ∧ a ≠ d ∧ H1 d = some (.dK []) ∧ Rd H1 a (.dK kvs) ∧ kvs.length < sizeLine ∧
  ∀ q, upd H1 d (.dK kvs) q = none → tk σ (upd (upd H1 d (.dK kvs)) q (.dK [])) fun y H2 => tv σ H2 fun z H3 => ∃ key, y = kV key ∧ H3 d = some (.dK kvs) ∧ H3 q = some (.dK []) ∧
    Q (.ref d) (upd (upd H3 q (.dK [(key, z)])) d (.dK (putK kvs key z)))
theorem pe_star {m k v : Expr} {tm tk tv : TE} (hm : PE X m tm) (hk : PE X k tk) (hv : PE X v tv) : PE X (.Dict [none, some k] [m, v] pos) (tStar tm tk tv) := by
  refine ⟨fun pins s σ H Q I q => ?_⟩
  have hn := I.hok.fresh (Nat.le_refl s.heap.objs.size)
  have I1 := I.laid (a := s.heap.objs.size) (o := .dK []) (h' := s.heap.push { cls := .type "dict", data := .dict #[] }) (t' := s.toks) (fun _ _ q => Heap.get?_push_of_some _ q) (Nat.le_refl _) (dk_empty s.heap I.big)
  rw [arm_eval_Dict]
  refine wpAny_bind (wpAny_standAt ?_)
  show wpAny _ _ (dictDisplay [(none, do let x ← eval m X.env; standAt pos; pure x), (some (eval k X.env), do let x ← eval v X.env; standAt pos; pure x)]) _ _ _
  refine ip_star (knd := mixKind X.prog X.w) (wpAny_bind (thn (hm.run pins _ σ _ _ I1 (q _ hn)) fun u s1 ⟨x, H1, I2, rx, a, kvs, ex, ne, ed, em, hl, q1⟩ => wpAny_bind (wpAny_standAt (wpAny_pure ?_))))
  subst ex
  obtain rfl : u = Value.ref a := rx
  obtain ⟨_, hds, vs0, r0, dd⟩ := dk_of I2.hok ed
  cases r0
  obtain ⟨_, has, vs, rk, da⟩ := dk_rd I2.hok em
  refine ⟨a, vs, rfl, has, ne, dd, da, by rw [← rk.length]; exact hl, fun h' hd' hs' => ?_⟩
  have he : ∃ q, h'.get? s.heap.objs.size = some q := let ⟨q, _, _, hq, _⟩ := hd'; ⟨q, hq⟩
  have I3 := d_write (t' := s1.toks) I2 (by rw [ed]; exact True.intro) hs' he (dk_new (Nat.le_of_lt hl) hds rk hd')
  have hn2 := I3.hok.fresh (Nat.le_refl h'.objs.size)
  have I4 := I3.laid (a := h'.objs.size) (o := .dK []) (h' := h'.push { cls := .type "dict", data := .dict #[] }) (t' := s1.toks) (fun _ _ q => Heap.get?_push_of_some _ q) (Nat.le_refl _) (dk_empty h' I3.big)
  refine thn (hk.run pins _ σ _ _ I4 (q1 _ hn2)) fun u2 s2 ⟨y, H2, I5, ry, q2⟩ => wpAny_bind (thn (hv.run pins _ σ _ _ I5 q2) fun u3 s3 ⟨z, H3, I6, rz, key, ey, e1, e2, q3⟩ => wpAny_bind (wpAny_standAt (wpAny_pure ?_)))
  subst ey
  obtain ⟨_, hd3, vs3, r3, dd3⟩ := dk_of I6.hok e1
  obtain ⟨_, hq3, vs4, r4, dd4⟩ := dk_of I6.hok e2
  cases r4
  have ned : s.heap.objs.size ≠ h'.objs.size := fun z => by
    rw [← z, upd_same] at hn2
    cases hn2
  refine ⟨key, vs3, kV_is ry, by rw [← r3.length]; exact hl, dd3, dd4, ned, hq3, fun h4 d4 s4 h5 d5 s5 => ?_⟩
  have he4 : ∃ q, h4.get? h'.objs.size = some q := let ⟨q, _, _, hq, _⟩ := d4; ⟨q, hq⟩
  have he5 : ∃ q, h5.get? s.heap.objs.size = some q := let ⟨q, _, _, hq, _⟩ := d5; ⟨q, hq⟩
  have I7 := d_write (t' := s3.toks) I6 (by rw [e2]; exact True.intro) s4 he4 (dk_new (kvs := [(key, z)]) (by rw [sizeLine_eq]; simp) hq3 (.cons ⟨rfl, rz⟩ .nil) d4)
  have e3 : upd H3 h'.objs.size (.dK [(key, z)]) s.heap.objs.size = some (.dK kvs) := by rw [upd_ne ned]; exact e1
  have hlp := length_putK kvs key z
  have I8 := d_write (t' := s3.toks + 1) I7 (by rw [e3]; exact True.intro) s5 he5 (dk_new (kvs := putK kvs key z) (by omega) hd3 (r3.put key rz) d5)
  exact ⟨.ref s.heap.objs.size, _, I8, rfl, q3⟩
end
end L2

namespace Ip
open PySem L2
section
variable {K : PySem.W.Frag} {p : Addr} {B0 : Addr → Prop} {oa : Oa} {env : En} {σ : L2.St} {H : Hp} {S : List D}
theorem FI.fresh (f : FI K p B0 oa env σ H S) {a : Addr} (ha : H a = none) : a ≠ p ∧ ¬ B0 a ∧ ∀ j, oa j ≠ some a := by
  have nb := f.new ha
  exact ⟨fun z => nb (.inr (.inl z)), fun z => nb (.inl z), fun j z => nb (.inr (.inr ⟨j, z⟩))⟩
/-- the shunned place is written and is data from now on -/
theorem FI.dicDone {a : Addr} {kvs : List (Key × V)} {ds : List D} (f : FI K p (fun b => B0 b ∨ b = a) oa env σ H S) (hp : a ≠ p) (h0 : ¬ B0 a) (ho : ∀ j, oa j ≠ some a) (nd : (kvs.map (·.1)).Nodup)
    (r : Reps K p (Bf (fun b => B0 b ∨ b = a) p oa) H (kvs.map (·.2)) ds) : FI K p B0 oa env σ (upd H a (.dK kvs)) S ∧ Rep K p (Bf B0 p oa) (upd H a (.dK kvs)) (.ref a) (.dic (kvs.map (·.1)) ds) := by
  refine ⟨(f.wrote (o := .dK kvs) hp trivial ho).unshun, .dic upd_same (fun z => ?_) nd ?_⟩
  · rcases z with z | z | ⟨j, z⟩
    · exact h0 z
    · exact hp z
    · exact ho j z
  · have ks : ∀ b u, ¬ Bf (fun b => B0 b ∨ b = a) p oa b → H b = some u → upd H a (.dK kvs) b = some u := fun b u nb q => by
      rw [upd_ne fun z => nb (.inl (.inr z))]
      exact q
    have q := Reps.move (B' := Bf (fun b => B0 b ∨ b = a) p oa) ks (fun _ q => .inl q) f.mut r
    exact q.less fun b h => by
      rcases h with h | h
      · exact .inl (.inl h)
      · exact .inr h
end
/-- the pairs of a display -/
def pairL : List (XM × XM) → RC → En → List D → Option (KD × List D)
  | [], _, _, S => some ([], S)
  | t :: ts, R, env, S => (t.1 R env S).bind fun x => (t.2 R env x.2).bind fun y => (keyD x.1).bind fun k => (pairL ts R env y.2).map fun z => ((k, y.1) :: z.1, z.2)
def xDict (ts : List (XM × XM)) : XM := fun R env S => (pairL ts R env S).bind fun x => if x.1.length ≤ 15 then some (.dic ((mergeD [] x.1).map (·.1)) ((mergeD [] x.1).map (·.2)), x.2) else none
def xStar (fm fk fv : XM) : XM := fun R env S => (fm R env S).bind fun m => match m.1 with
  | .dic ks ds => if ks.length < sizeLine then (fk R env m.2).bind fun x => (fv R env x.2).bind fun y => (keyD x.1).map fun k => (.dic ((putD (kdOf ks ds) k y.1).map (·.1)) ((putD (kdOf ks ds) k y.1).map (·.2)), y.2) else none
  | _ => none
section
variable {K : PySem.W.Frag} {p : Addr} {B0 : Addr → Prop} {oa : Oa} {env : En} {σ : L2.St} {H : Hp} {S : List D} {R : RC}
theorem pairs_tI : ∀ {ts : List (XM × XM)} {H : Hp} {S : List D} {r : KD × List D} {Q : List (V × V) → Hp → Prop}, FI K p B0 oa env σ H S → pairL ts R env S = some r →
    (∀ kvs H', FI K p B0 oa env σ H' r.2 → Keep p H H' → RKD K p (Bf B0 p oa) H' kvs r.1 → Q (kvs.map fun kv => (kV kv.1, kv.2)) H') → tPairs (ts.map fun t => (tI K p (t.1 R), tI K p (t.2 R))) σ H Q
  | [], H, S, r, Q, f, e, k => by
    cases e
    exact k [] H f (Keep.refl p H) .nil
  | t :: ts, H, S, r, Q, f, e, k => by
    simp only [pairL] at e
    obtain ⟨x, ex, e⟩ := Option.bind_eq_some_iff.mp e
    obtain ⟨y, ey, e⟩ := Option.bind_eq_some_iff.mp e
    obtain ⟨kk, ek, e⟩ := Option.bind_eq_some_iff.mp e
    obtain ⟨z, ez, rfl⟩ := Option.map_eq_some_iff.mp e
    refine ⟨env, S, B0, oa, f, x, ex, fun v H1 f1 k1 r1 => ⟨env, _, B0, oa, f1, y, ey, fun u H2 f2 k2 r2 => ?_⟩⟩
    refine pairs_tI f2 ez fun kvs H3 f3 k3 r3 => ?_
    have q := k ((kk, u) :: kvs) H3 f3 ((k1.trans k2).trans k3) (.cons (r2.keep f2 k3) r3)
    rw [key_rep r1 ek]
    exact q
end
section
variable {X : Cx} {p : Addr} {pos : Pos} {R : RC}
theorem ie_dict {keys : List (Option Expr)} {values : List Expr} {ts : List (XM × XM)} (h : PPs X pos keys values (ts.map fun t => (tI X.K p (t.1 R), tI X.K p (t.2 R)))) (hall : keys.all (·.isSome) = true) (hl : keys.length = values.length) (h0 : keys ≠ []) (h15 : keys.length ≤ 15) :
    PE X (.Dict keys values pos) (tI X.K p (xDict ts R)) := (pe_disp h hall hl h0 h15).imp fun σ H Q q => by
  obtain ⟨env, S, B0, oa, f0, w, e1, k⟩ := q
  unfold xDict at e1
  obtain ⟨x, ex, e1⟩ := Option.bind_eq_some_iff.mp e1
  split at e1
  · rename_i hx
    cases e1
    intro a ha
    obtain ⟨np, n0, no⟩ := f0.fresh ha
    have f1 := f0.shun ha (o := .dK []) trivial
    refine pairs_tI f1 ex fun kvs H2 f2 k2 r2 => ⟨k2 a _ np upd_same, kvs, rfl, by rw [r2.length]; exact hx, ?_⟩
    have rm := r2.merge (kvs := []) .nil
    obtain ⟨f3, r3⟩ := f2.dicDone np n0 no (nodup_merge kvs [] List.nodup_nil) rm.vals
    rw [rm.keys] at r3
    refine k _ _ f3 (fun b o nb q => ?_) r3
    rw [upd_ne (ne_of_none q ha)]
    exact k2 b o nb (by rw [upd_ne (ne_of_none q ha)]; exact q)
  · cases e1
theorem ie_star {m k v : Expr} {fm fk fv : XM} (hm : PE X m (tI X.K p (fm R))) (hk : PE X k (tI X.K p (fk R))) (hv : PE X v (tI X.K p (fv R))) : PE X (.Dict [none, some k] [m, v] pos) (tI X.K p (xStar fm fk fv R)) := (pe_star hm hk hv).imp fun σ H Q q => by
  obtain ⟨env, S, B0, oa, f0, w, e1, kk⟩ := q
  unfold xStar at e1
  obtain ⟨x, ex, e1⟩ := Option.bind_eq_some_iff.mp e1
  split at e1
  · rename_i ks ds hx
    split at e1
    · rename_i hl
      obtain ⟨y, ey, e1⟩ := Option.bind_eq_some_iff.mp e1
      obtain ⟨z, ez, e1⟩ := Option.bind_eq_some_iff.mp e1
      obtain ⟨key, ek, rfl⟩ := Option.map_eq_some_iff.mp e1
      intro d hd
      obtain ⟨np, n0, no⟩ := f0.fresh hd
      have f1 := f0.shun hd (o := .dK []) trivial
      refine ⟨env, S, _, oa, f1, x, ex, fun u H1 f2 k2 r2 => ?_⟩
      rw [hx] at r2
      have ed : H1 d = some (.dK []) := k2 d _ np upd_same
      generalize hdd : D.dic ks ds = dd at r2
      cases r2 with
      | dic h nb nd q =>
        rename_i a kvs ds'
        cases hdd
        have na : a ≠ d := fun z => nb (.inl (.inr z))
        have hlk : kvs.length < sizeLine := by rw [List.length_map] at hl; exact hl
        refine ⟨a, kvs, rfl, na, ed, .inl h, hlk, fun q2 hq2 => ?_⟩
        have f3 := f2.wrote (o := .dK kvs) np trivial no
        obtain ⟨np2, n02, no2⟩ := f3.fresh hq2
        have nqd : q2 ≠ d := fun z => n02 (.inr z)
        have f4 := f3.shun hq2 (o := .dK []) trivial
        have ka : ∀ b u, ¬ Bf (fun b => B0 b ∨ b = d) p oa b → H1 b = some u → upd H1 d (.dK kvs) b = some u := fun b u nb q => by
          rw [upd_ne fun z => nb (.inl (.inr z))]
          exact q
        have q3 := Reps.move (B' := Bf (fun b => B0 b ∨ b = d) p oa) ka (fun _ q => .inl q) f2.mut q
        refine ⟨env, _, _, oa, f4, y, ey, fun u2 H2 f5 k5 r5 => ⟨env, _, _, oa, f5, z, ez, fun u3 H3 f6 k6 r6 => ?_⟩⟩
        have k56 := k5.trans k6
        have e3d : H3 d = some (.dK kvs) := k56 d _ np (by rw [upd_ne (Ne.symm nqd)]; exact upd_same)
        have e3q : H3 q2 = some (.dK []) := k56 q2 _ np2 upd_same
        refine ⟨key, key_rep r5 ek, e3d, e3q, ?_⟩
        have f7 := (f6.wrote (o := .dK [(key, u3)]) np2 trivial no2).unshun
        have kq : ∀ b u, ¬ Bf (fun b => (B0 b ∨ b = d) ∨ b = q2) p oa b → H3 b = some u → upd H3 q2 (.dK [(key, u3)]) b = some u := fun b u nb q => by
          rw [upd_ne fun z => nb (.inl (.inr z))]
          exact q
        have ls : ∀ b, Bf (fun b => B0 b ∨ b = d) p oa b → Bf (fun b => (B0 b ∨ b = d) ∨ b = q2) p oa b := fun b h => by
          rcases h with h | h
          · exact .inl (.inl h)
          · exact .inr h
        have r7 := (Rep.move (B' := Bf (fun b => (B0 b ∨ b = d) ∨ b = q2) p oa) kq (fun _ q => .inl q) f6.mut r6).less ls
        have q4 : Reps X.K p (Bf (fun b => B0 b ∨ b = d) p oa) (upd H3 q2 (.dK [(key, u3)])) (kvs.map (·.2)) ds := by
          have a1 := Reps.move (B' := Bf (fun b => (B0 b ∨ b = d) ∨ b = q2) p oa) (H' := upd (upd H1 d (.dK kvs)) q2 (.dK [])) (fun b u nb q => by
            rw [upd_ne (ne_of_none q hq2)]
            exact q) (fun b h => by
            rcases h with (h | h) | h
            · exact .inl (.inl h)
            · exact .inr (h ▸ hq2)
            · exact .inl (.inr h)) f3.mut q3
          have a2 := a1.keep f4 k56
          exact (Reps.move (B' := Bf (fun b => (B0 b ∨ b = d) ∨ b = q2) p oa) kq (fun _ q => .inl q) f6.mut a2).less ls
        have rk := (RKD.of q4).put key r7
        obtain ⟨f8, r8⟩ := f7.dicDone np n0 no (nodup_put key u3 kvs nd) rk.vals
        have ek2 := rk.keys
        have r8 : Rep X.K p (Bf B0 p oa) (upd (upd H3 q2 (.dK [(key, u3)])) d (.dK (putK kvs key u3))) (.ref d) (.dic ((putK kvs key u3).map (·.1)) ((putD (kdOf (kvs.map (·.1)) ds) key z.1).map (·.2))) := r8
        rw [ek2] at r8
        refine kk _ _ f8 (fun b o nb q => ?_) r8
        have nd' := ne_of_none q hd
        have b1 : H1 b = some o := k2 b o nb (by rw [upd_ne nd']; exact q)
        have b2 : upd H1 d (.dK kvs) b = some o := by rw [upd_ne nd']; exact b1
        have nq' := ne_of_none b2 hq2
        rw [upd_ne nd', upd_ne nq']
        exact k56 b o nb (by rw [upd_ne nq']; exact b2)
      | _ => cases hdd
    · cases e1
  · cases e1
end
end Ip

set_option maxHeartbeats 1000000
/-! IpQ: xs.extend(t), x[::-1], str(int), d != e. -/
namespace PySem.AutoSeq1
theorem ip_extend_tuple (l : Addr) (items : Array Value) (n : Nat) (b : Addr) (items2 : Array Value) (n2 : Nat) (sl : Array (Option Value)) (hs0 : ¬(!items.isEmpty && Builtin.List.listTooLong (items.size + items2.size)) = true) (hs1 : items.size ≤ sizeLine) (hs2 : items.size + items2.size ≤ sizeLine + 1) :
    Meets (Builtin.«list.extend» ⟨[.ref l, .ref b], []⟩) (fun _ R s => s.heap.get? l = some { cls := .type "list", dict := none, data := .seq items n, slots := #[] } ∧ s.heap.get? b = some { cls := .type "tuple", dict := none, data := .seq items2 n2, slots := sl } ∧ R (.ok (.ret Value.none)) { s with heap := s.heap.update l (Obj.mapSeq fun x => x ++ items2), toks := s.toks }) :=
  .of_wp fun prog w A R s h => by
    obtain ⟨hp, g, d, tk, os⟩ := s; obtain ⟨hl, hb, h⟩ := h; have f1 := idx_int; have f2 := sub_tuple_tuple; have f3 := sub_list_list; have f4 := sub_tuple_list; have f5 := sub_list_tuple;
    have hz' : (items ++ items2).size ≤ sizeLine + 1 := by rw [Array.size_append]; exact hs2
    wp_walk using (wpAny_updateSeq hl rfl (hz := hs1) (_hz' := hz')), wpAny_loadPart' hl, wpAny_loadPart' hb; exact ⟨_, rfl, h⟩
end PySem.AutoSeq1
namespace Ip
open PySem L2 PyProof.Rows
section
variable {X : Cx}
def rExtT (K : PySem.W.Frag) : V → List V → Hp → VK → Prop := fun x vs H Q => ∃ l b xs zs, x = .ref l ∧ vs = [.ref b] ∧ H l = some (.lst xs) ∧ SqN K H b zs ∧ xs.length + zs.length ≤ sizeLine ∧ Q .non (upd H l (.lst (xs ++ zs)))
theorem mt_extT : MtM X "list.extend" (rExtT X.K) := by
  intro pins s σ H x vs v us Q I rx rv h
  obtain ⟨l, b, xs, zs, rfl, rfl, hH, hB, hz, q⟩ := h
  cases rx
  obtain ⟨u, rfl, ru⟩ := rv.one
  cases ru
  obtain ⟨z, its, n, r, hl, e⟩ := I.lstM hH
  obtain ⟨its2, r2, ⟨o, n2, e2, hc, hd, hdt⟩, hl2⟩ := SqN.plain I hB
  obtain ⟨cls, dd, data, sl⟩ := o
  simp only at hc hd hdt
  subst hc hd hdt
  have hl3 := r2.length
  have hsz : its.toArray.size + its2.toArray.size ≤ sizeLine := by rw [List.size_toArray, List.size_toArray]; omega
  have hlong : ¬ (!its.toArray.isEmpty && Builtin.List.listTooLong (its.toArray.size + its2.toArray.size)) = true := by
    rw [notLongL hsz, Bool.and_false]
    exact Bool.false_ne_true
  refine call_meets F.slot_list_extend ⟨_, e, rfl⟩ F.entry_list_extend (F.args_list_extend_2 _ _)
    (AutoSeq1.ip_extend_tuple l its.toArray n b its2.toArray n2 sl hlong (by rw [List.size_toArray]; omega) (by omega)) ⟨e, e2, ?_⟩
  refine ⟨.non, _, I.lset (its' := its ++ its2) hH e (by simp) (r.append r2) ?_, rfl, q⟩
  rw [List.length_append]
  omega

/-! ### x[::-1] -/
variable {prog : Program} {w : World} {A : Around} {E : Value → Shared → Prop} {s : Shared}
theorem adjust_rev (n : Nat) : Builtin.Slice.sliceAdjust none none (-1) (n : Int) = ((n : Int) - 1, -1) := by
  unfold Builtin.Slice.sliceAdjust
  simp
theorem places_rev (n : Nat) : Builtin.Slice.slicePlaces ((n : Int) - 1) (-1) (-1) = n := by
  unfold Builtin.Slice.slicePlaces
  have h1 : ¬ ((-1 : Int) > 0) := by omega
  simp only [h1, if_false, Int.neg_neg, Int.ediv_one]
  split <;> omega
theorem sliceApplied_rev {sl : Addr} {vs : Value} {n : Nat} {Q : Int × Int × Nat → Shared → Prop} (hs : s.heap.IsSliceOf sl .none .none vs) (ps : IsPart vs (some (-1)))
    (h : Q ((n : Int) - 1, -1, n) s) : wpAny (model prog w) A (Builtin.Slice.sliceApplied (.ref sl) (pure (n : Int))) Q E s := by
  obtain ⟨os, hos, hcs, hds⟩ := id hs
  unfold Builtin.Slice.sliceApplied Builtin.Slice.sliceFields
  refine wpAny_bind (wpAny_bind (wpAny_field hos hds (x := .none) rfl (wpAny_bind (wpAny_field hos hds (x := .none) rfl (wpAny_bind (wpAny_field hos hds (x := vs) rfl (wpAny_pure ?_)))))))
  refine wpAny_bind (HT.slicePart_ ps ?_)
  show wpAny _ _ (if ((-1 : Int) == 0) = true then _ else _) _ _ s
  rw [if_neg (by decide)]
  refine wpAny_bind (slicePart_none (wpAny_bind (slicePart_none (wpAny_bind (wpAny_pure ?_)))))
  show wpAny _ _ (match Builtin.Slice.sliceAdjust none none (-1) (n : Int) with | (lo, hi) => pure (lo, (-1 : Int), Builtin.Slice.slicePlaces lo hi (-1))) _ _ s
  rw [adjust_rev n]
  show wpAny _ _ (pure ((n : Int) - 1, (-1 : Int), Builtin.Slice.slicePlaces ((n : Int) - 1) (-1) (-1))) _ _ s
  rw [places_rev]
  exact wpAny_pure h
theorem pick_rev (xs : Array Value) : ((List.range xs.size).filterMap fun (m : Nat) => xs[((xs.size : Int) - 1 + (m : Int) * (-1)).toNat]?).toArray = xs.toList.reverse.toArray := by
  refine congrArg List.toArray ?_
  have e : ∀ m ∈ List.range xs.size, xs[((xs.size : Int) - 1 + (m : Int) * (-1)).toNat]? = xs.toList.reverse[m]? := fun m hm => by
    have hm := List.mem_range.mp hm
    have : ((xs.size : Int) - 1 + (m : Int) * (-1)).toNat = xs.size - 1 - m := by omega
    rw [this, List.getElem?_reverse (by simpa using hm)]
    simp
  have key : ∀ (l : List Nat) (f g : Nat → Option Value), (∀ m ∈ l, f m = g m) → l.filterMap f = l.filterMap g := fun l f g h => by
    induction l with
    | nil => rfl
    | cons a l ih => simp only [List.filterMap_cons, h a List.mem_cons_self, ih fun m hm => h m (List.mem_cons_of_mem _ hm)]
  rw [key _ _ _ e]
  have all : ∀ (l : List Value), (List.range l.length).filterMap (fun m => l[m]?) = l := fun l => by
    apply List.ext_getElem?
    intro i
    induction l generalizing i with
    | nil => simp
    | cons a l ih =>
      rw [List.length_cons, List.range_succ_eq_map, List.filterMap_cons]
      simp only [List.getElem?_cons_zero]
      cases i with
      | zero => simp
      | succ i =>
        rw [List.getElem?_cons_succ, List.getElem?_cons_succ, List.filterMap_map]
        have : ((fun m => (a :: l)[m]?) ∘ Nat.succ) = fun m => l[m]? := by
          funext m
          simp
        rw [this]
        exact ih i
  have := all xs.toList.reverse
  simpa using this
theorem getItem_tuple_rev {t sl : Addr} {items : Array Value} {vs : Value} {Q : Value → Shared → Prop} (ht : PyProof.Rows.IsTup s.heap t items) (hs : s.heap.IsSliceOf sl .none .none vs) (ps : IsPart vs (some (-1)))
    (h : Q (.ref s.heap.objs.size) { s with heap := s.heap.push { cls := .type "tuple", data := .seq items.toList.reverse.toArray } })
    (hsz : items.size ≤ sizeLine) : wpAny (model prog w) A (getItem (.ref t) (.ref sl)) Q E s := by
  have hrev : sizeOk (.seq items.toList.reverse.toArray) := by
    show items.toList.reverse.toArray.size ≤ sizeLine
    rw [List.size_toArray, List.length_reverse, Array.length_toList]
    exact hsz
  obtain ⟨os, hos, hcs, hds⟩ := id hs
  have hTs : s.TypeIs (.ref sl) "slice" := ⟨os, hos, hcs⟩
  unfold getItem
  try with_reducible refine wpAny_holding ?_
  first | refine wpAny_bind (wpAny_pure ?_) | skip
  refine wpAny_bind (wpAny_sequenceKey ht.typeIs (by decide) ?_)
  refine wpAny_bind (wpAny_callSpecial?_slot (name := Str.ofString "__getitem__") ht.typeIs PyProof.Rows.slot_tuple_getitem
    (wpAny_call_entry PyProof.Rows.slot_tuple_getitem ht.typeIs PyProof.Rows.entry_tuple_getitem ?_ (PyProof.Rows.args_tuple_getitem _ _)))
  show wpAny _ _ (Builtin.Tuple.tupleItemsOf (.ref t) >>= _) _ _ s
  refine wpAny_bind (PyProof.Rows.tupleItemsOf_ ht ?_)
  refine wpAny_bind (wpAny_typeOf hTs ?_)
  rw [if_pos (by decide)]
  refine wpAny_bind (sliceApplied_rev hs ps ?_)
  have hno : ¬ (((items.size : Int) - 1 == 0 && (-1 : Int) == 1 && items.size == items.size) = true) := by
    simp
  show wpAny _ _ (if ((items.size : Int) - 1 == 0 && (-1 : Int) == 1 && items.size == items.size) = true then _ else _) _ _ s
  rw [if_neg hno, pick_rev items]
  first
    | exact wpAny_bind (m := Builtin.Tuple.tupleExact _) (wpAny_newObj_type (wpAny_pure ⟨_, rfl, wpAny_pure h⟩) hrev)
    | exact wpAny_bind (m := Builtin.Tuple.tupleExact _) (wpAny_newObj_type (wpAny_bind (wpAny_pure (wpAny_pure ⟨_, rfl, wpAny_pure h⟩))) hrev)
    | exact wpAny_bind (wpAny_bind (m := Builtin.Tuple.tupleExact _) (wpAny_newObj_type (wpAny_pure (wpAny_pure ⟨_, rfl, wpAny_pure h⟩)) hrev))
    | exact wpAny_bind (wpAny_bind (m := Builtin.Tuple.tupleExact _) (wpAny_newObj_type (wpAny_pure ⟨_, rfl, wpAny_pure h⟩) hrev))
def tRevX (K : PySem.W.Frag) (te : TE) : TE := fun σ H Q => te σ H fun x H1 => ∃ a xs, x = .ref a ∧ ((SqL K H1 a xs ∧ ∀ p, H1 p = none → Q (.ref p) (upd H1 p (.lst xs.reverse))) ∨
  (SqT K H1 a xs ∧ ∀ p (o : Obj), o.dict = none → H1 p = none → Q (.ref p) (upd H1 p (.frz o (.tup xs.reverse)))))
theorem pe_revX {e : Expr} {te : TE} {k : Nat} {p1 p2 p3 pos : Pos} (he : PE X e te) : PE X (.Subscript e (.Slice none none (some (.UnaryOp .USub (.Constant (.int 1) k p1) p2)) p3) pos) (tRevX X.K te) := by
  refine ⟨fun pins s σ H Q I h => ?_⟩
  refine Subscript_ (thn (he.run pins s σ H _ I h) fun v s1 ⟨x, H1, I1, r1, q1⟩ => ?_)
  obtain ⟨a, xs, ex, q⟩ := q1
  subst ex
  cases r1
  have hst : PO X (some (.UnaryOp .USub (.Constant (.int 1) k p1) p2)) (tPart (tUn (rU fun i => .int (-i)) (tC (.int 1)))) := po_some (pe_un un_neg pe_int)
  refine wpAny_Slice (thn (po_none.run pins s1 σ H1 (fun o H2 => o = none ∧ H2 = H1) I1 ⟨rfl, rfl⟩) fun vl s2 ⟨l, H2, I2, pl, el, e2⟩ => ?_)
  subst el e2
  refine thn (po_none.run pins s2 σ H2 (fun o H3 => o = none ∧ H3 = H2) I2 ⟨rfl, rfl⟩) fun vu s3 ⟨u, H3, I3, pu, eu, e3⟩ => ?_
  subst eu e3
  refine thn (hst.run pins s3 σ H3 (fun o H4 => o = some (-1) ∧ H4 = H3) I3 ⟨1, rfl, -1, rfl, rfl, rfl⟩) fun vs s4 ⟨o, H4, I4, ps, eo, e4⟩ => ?_
  subst eo e4
  have I5 : Inv X pins σ H4 { s4 with heap := s4.heap.push { cls := .type "slice", data := .fields #[vl, vu, vs] } } := I4.kept (t' := s4.toks) fun b ob q => Heap.get?_push_of_some _ q
  show wpAny (model X.prog X.w) X.A (subscriptTail e (.Slice none none (some (.UnaryOp .USub (.Constant (.int 1) k p1) p2)) p3) (.ref a) (.ref s4.heap.objs.size)) (EP X pins σ Q) X.xe { s4 with heap := s4.heap.push { cls := .type "slice", data := .fields #[vl, vu, vs] } }
  rcases q with ⟨hx, q⟩ | ⟨hx, q⟩
  · obtain ⟨its, r, ht, hz⟩ := I5.list hx
    have hlen := r.length
    refine tail_any (ops := [.ref a, .ref s4.heap.objs.size]) ht.isList.typeIs (PySem.slot_list_getitem.lookup) ?_ (by with_unfolding_all rfl)
    refine wpAny_getItem_list_slice ht.isList (Heap.IsSliceOf.new _ vl vu vs) pl pu ps (by decide) ?_ (by rw [List.size_toArray]; omega)
    rw [PySem.W.krv_pick]
    refine ⟨.ref _, _, I5.laid (t' := s4.toks) (o := .lst xs.reverse) (fun b ob q => Heap.get?_push_of_some _ q) (Nat.le_refl _) ?_, rfl, q _ (I5.hok.fresh (Nat.le_refl _))⟩
    exact ⟨by rw [List.length_reverse]; exact hz, _, 0, r.reverse, Heap.get?_push_size _ rfl⟩
  · obtain ⟨its, r, ht, hz⟩ := I5.tuple hx
    have hlen := r.length
    cases pl
    cases pu
    refine tail_any (ops := [.ref a, .ref s4.heap.objs.size]) ht.typeIs (PyProof.Rows.slot_tuple_getitem.lookup) ?_ (by with_unfolding_all rfl)
    refine getItem_tuple_rev ht (Heap.IsSliceOf.new _ .none .none vs) ps ?_ (by rw [List.size_toArray]; omega)
    refine ⟨.ref _, upd H4 _ (.frz _ (.tup xs.reverse)), I5.laid (t' := s4.toks) (o := .frz _ (.tup xs.reverse)) (fun b ob q => Heap.get?_push_of_some _ q) (Nat.le_refl _) ⟨Heap.get?_push_size _ rfl, ?_⟩, rfl, q _ _ rfl (I5.hok.fresh (Nat.le_refl _))⟩
    exact ⟨by rw [List.length_reverse]; exact hz, its.reverse, r.reverse, PyProof.Rows.IsTup.new _ _⟩
end
end Ip

namespace Ip
open PySem L2 PyProof.Rows
def xRev (f : XM) : XM := fun R env S => (f R env S).bind fun x => match x.1 with
  | .tup ds => some (.tup ds.reverse, x.2)
  | .lst ds => some (.lst ds.reverse, x.2)
  | _ => none
section
variable {K : PySem.W.Frag} {p : Addr} {B : Addr → Prop} {H : Hp}
theorem Reps.rev : ∀ {vs : List V} {ds : List D}, Reps K p B H vs ds → Reps K p B H vs.reverse ds.reverse
  | _, _, .nil => .nil
  | _, _, .cons r t => by
    rw [List.reverse_cons, List.reverse_cons]
    exact (Reps.rev t).append (Reps.one r)
end
section
variable {X : Cx} {p : Addr} {e : Expr} {pos : Pos} {R : RC}
theorem ie_rev {f : XM} {k : Nat} {p1 p2 p3 : Pos} (h : PE X e (tI X.K p (f R))) : PE X (.Subscript e (.Slice none none (some (.UnaryOp .USub (.Constant (.int 1) k p1) p2)) p3) pos) (tI X.K p (xRev f R)) := (pe_revX h).imp fun σ H Q q => by
  obtain ⟨env, S, B0, oa, f0, w, e1, k⟩ := q
  unfold xRev at e1
  obtain ⟨x, ex, e1⟩ := Option.bind_eq_some_iff.mp e1
  refine ⟨env, S, B0, oa, f0, x, ex, fun v H1 f1 k1 r1 => ?_⟩
  generalize x.1 = dx at r1 e1
  cases r1 with
  | tup hs q =>
    cases e1
    exact ⟨_, _, rfl, .inr ⟨hs.t, fun a o ho ha => k _ _ (f1.same (same_new ha)) (k1.trans (Keep.of (same_new ha))) (q.rev.tup ha ho)⟩⟩
  | lst hs nb q =>
    cases e1
    exact ⟨_, _, rfl, .inl ⟨.inl (.inl hs), fun a ha => k _ _ (f1.same (same_new ha)) (k1.trans (Keep.of (same_new ha))) (q.rev.lst f1.mut ha)⟩⟩
  | _ => cases e1
/-! ### x.extend(e), x an own list -/
def seqOf : D → Option (List D)
  | .tup ds => some ds
  | .lst ds => some ds
  | _ => none
def sExt (i : Nat) (f : XM) : SM := fun R env S => match env[i]? with
  | some (some (.own xs)) => (f R env S).bind fun x => (seqOf x.1).bind fun ds => if xs.length + ds.length ≤ sizeLine then some (.nx, env.set i (some (.own (xs ++ ds))), x.2) else none
  | _ => none
def rExtX (K : PySem.W.Frag) : V → List V → Hp → VK → Prop := fun x vs H Q => rExtend x vs H Q ∨ rExtT K x vs H Q
theorem mt_extX : MtM X "list.extend" (rExtX X.K) := by
  intro pins s σ H x vs v us Q I rx rv h
  rcases h with h | h
  · exact mt_extend pins s σ H x vs v us Q I rx rv h
  · exact mt_extT pins s σ H x vs v us Q I rx rv h
theorem is_ext {i : Nat} {x : Str} {px apos cpos : Pos} {f : XM} (hx : PE X (.Name x px) (tVar i)) (h : PE X e (tI X.K p (f R))) (m : MSide X (.Name x px) "extend" apos [e] cpos) (hs : starEach [e] X.env = (false, eval e X.env) :: starEach [] X.env) :
    PS X (.Expr (.Call (.Attribute (.Name x px) "extend" apos) [e] [] cpos) pos) (tIS X.K p (sExt i f R)) := (ps_expr (pe_bm PySem.F.plainAttrs_list PySem.F.slot_list_extend PySem.F.type_list_extend mt_extX hx (pa_cons h pa_nil hs) m.base m.few m.line hs (by rfl)) (by rfl)).imp fun Dn σ H q => by
  obtain ⟨env, S, B0, oa, f0, w, e1, k⟩ := q
  unfold sExt at e1
  split at e1
  · rename_i xs hxs
    obtain ⟨r, er, e1⟩ := Option.bind_eq_some_iff.mp e1
    obtain ⟨ds, ed, e1⟩ := Option.bind_eq_some_iff.mp e1
    split at e1
    · rename_i hl
      cases e1
      obtain ⟨a, vs, ha, hσ, hH, _⟩ := own_lst f0 hxs
      refine ⟨.ref a, hσ, .inl ⟨rfl, _, .inl (.inl hH)⟩, env, S, B0, oa, f0, r, er, fun v H1 f1 k1 r1 => ?_⟩
      obtain ⟨b, ws, hb, hσ2, hH2, rs⟩ := own_lst f1 hxs
      rw [ha] at hb
      cases hb
      have np : a ≠ p := (f1.dis i a ha).2
      have fin : ∀ zs, Reps X.K p (Bf B0 p oa) H1 zs ds → Dn.nx σ (upd H1 a (.lst (ws ++ zs))) := fun zs qz =>
        k σ _ oa (f1.own ha (fun d z => nomatch z) (.own upd_same ((owns_keep f1 ha rs).append (owns_keep f1 ha qz)))) ((k1.mv f1.pool.some).trans (Mv.own ha np))
      generalize r.1 = dr at r1 ed
      cases r1 with
      | tup hs q =>
        cases ed
        exact .inr ⟨a, _, ws, _, rfl, rfl, hH2, hs, by rw [rs.length, q.length]; exact hl, fin _ q⟩
      | lst hs nb q =>
        cases ed
        exact .inl ⟨a, _, ws, _, rfl, rfl, hH2, hs, by rw [rs.length, q.length]; exact hl, fin _ q⟩
      | _ => cases ed
    · cases e1
  · cases e1
/-! ### str(int) -/
def strD : List D → Option D
  | [.int i] => if i.natAbs.log2 < 1920 then some (.str (toString i)) else none
  | _ => none
def rStrI : List V → Hp → VK → Prop := fun xs H Q => ∃ i : Int, xs = [.int i] ∧ i.natAbs.log2 < 1920 ∧ Q (.str (toString i)) H
end
section
variable {K : PySem.W.Frag} {p : Addr}
theorem vra_str : VRA K p rStrI strD := fun B H xs ds d Q hm r e k => by
  unfold strD at e
  split at e
  · obtain ⟨v, rfl, r'⟩ := r.one_inv
    split at e
    · rename_i h
      cases e
      rw [r'.isInt]
      exact ⟨_, rfl, h, k _ H (Same.refl H) (.str _)⟩
    · cases e
  · cases e
/-! ### d != e, dicts that hold the same -/
def dicSame (ks : List Key) (ds : List D) (ks' : List Key) (ds' : List D) : Bool := decide (ks = ks') && decide (ds.length = ds'.length) && (ds.zip ds').all fun z => decide (scalD z.1 z.2 = some true)
def neX (d e : D) : Option D := match neD d e with
  | some r => some r
  | none => match d, e with
    | .dic ks ds, .dic ks' ds' => if dicSame ks ds ks' ds' then some (.bl false) else none
    | _, _ => none
theorem scal_same {B : Addr → Prop} {H : Hp} : ∀ {vs ws : List V} {ds es : List D}, Reps K p B H vs ds → Reps K p B H ws es → ds.length = es.length → ((ds.zip es).all fun z => decide (scalD z.1 z.2 = some true)) = true → vs = ws ∧ ∀ v ∈ vs, flatB v = true
  | _, _, _, _, .nil, .nil, _, _ => ⟨rfl, fun _ h => by cases h⟩
  | _, _, _, _, .nil, .cons _ _, h, _ => by simp at h
  | _, _, _, _, .cons _ _, .nil, h, _ => by simp at h
  | _, _, _, _, .cons r t, .cons r' t', h, ha => by
    rw [List.zip_cons_cons, List.all_cons, Bool.and_eq_true, decide_eq_true_eq] at ha
    obtain ⟨e1, e2⟩ := scal_same t t' (by simpa using h) ha.2
    obtain ⟨hs, he⟩ := scal_rep r r' ha.1
    have he := of_decide_eq_true he
    refine ⟨by rw [he, e1], fun v hv => ?_⟩
    rcases List.mem_cons.mp hv with rfl | hv
    · cases r <;> first
        | rfl
        | (cases r' <;> cases ha.1)
    · exact e2 v hv
def rNeX2 (K : PySem.W.Frag) : R2 := fun x y H Q => rNeX K x y H Q ∨ rNeDA x y H Q
theorem pairs_ext : ∀ {ks ls : List (Key × V)}, ks.map (·.1) = ls.map (·.1) → ks.map (·.2) = ls.map (·.2) → ks = ls
  | [], [], _, _ => rfl
  | [], _ :: _, h, _ => by simp at h
  | _ :: _, [], h, _ => by simp at h
  | k :: ks, l :: ls, h1, h2 => by
    simp only [List.map_cons, List.cons.injEq] at h1 h2
    rw [pairs_ext h1.2 h2.2, Prod.ext h1.1 h2.1]
theorem vr_neX : VR2 K p (rNeX2 K) neX := fun B H x y d1 d2 d Q hm r1 r2 e k => by
  unfold neX at e
  split at e
  · rename_i r hr
    cases e
    exact .inl (vr_ne B H x y d1 d2 _ Q hm r1 r2 hr k)
  · split at e
    · rename_i ks ds ks' ds' _
      split at e
      · rename_i hs
        cases e
        unfold dicSame at hs
        simp only [Bool.and_eq_true, decide_eq_true_eq] at hs
        obtain ⟨⟨h1, h2⟩, h3⟩ := hs
        generalize hd1 : D.dic ks ds = e1 at r1
        generalize hd2 : D.dic ks' ds' = e2 at r2
        cases r1 with
        | dic ha na nda qa =>
          cases hd1
          cases r2 with
          | dic hb nb ndb qb =>
            cases hd2
            obtain ⟨e1, e2⟩ := scal_same qa qb h2 h3
            have ek := pairs_ext h1 e1
            subst ek
            refine .inr ⟨_, _, _, _, rfl, rfl, ha, hb, rfl, fun q hq => ⟨val_nodup nda q hq, e2 _ (List.mem_map.mpr ⟨q, hq, rfl⟩)⟩, k _ H (Same.refl H) (.bl _)⟩
          | _ => cases hd2
        | _ => cases hd1
      · cases e
    · cases e
end
end Ip

set_option maxHeartbeats 1000000
/-! IpN: a class: its instances are data. -/
namespace Ip
open PySem L2

/-- name, fields in the order of __init__'s parameters, methods (name, key of the meaning, number of parameters) -/
structure ClsI where
  name : Str
  flds : List Str
  meths : List (Str × Str × Nat)
def lookN : List Str → List D → Str → Option D
  | n :: ns, d :: ds, f => if f = n then some d else lookN ns ds f
  | _, _, _ => none
def isIns (c : Str) : D → Bool
  | .ins c' _ _ => decide (c' = c)
  | _ => false
def fldD (c f : Str) : D → Option D
  | .ins c' ns ds => if c' = c then lookN ns ds f else none
  | _ => none
def metB (c m : Str) : D → Bool
  | .ins c' ns _ => decide (c' = c) && decide (m ∉ ns)
  | _ => false
def xFld (c f : Str) (fo : XM) : XM := fun R env S => (fo R env S).bind fun x => (fldD c f x.1).map fun d => (d, x.2)
def xMet (c m key : Str) (fo : XM) (fa : AM) : XM := fun R env S => (fo R env S).bind fun x => if metB c m x.1 = true then (fa R env x.2).bind fun y => R key (x.1 :: y.1) y.2 else none
def xNew (c : Str) (ns : List Str) (fa : AM) : XM := fun R env S => (fa R env S).bind fun y => if y.1.length = ns.length then some (.ins c ns y.1, y.2) else none
/-- __init__ stores its parameters -/
def spInit (C : Addr) (ns : List Str) : Sp := fun vs H Q _ => ∃ x dx us, vs = .ref x :: us ∧ us.length = ns.length ∧ H x = some (.ins C dx []) ∧ Q .non (upd H x (.ins C dx (ns.zip us)))

section
variable {K : PySem.W.Frag} {p : Addr} {B : Addr → Prop} {H : Hp}
theorem lookN_rep {f : Str} : ∀ {ns : List Str} {vs : List V} {ds : List D} {d : D}, ns.length = vs.length → Reps K p B H vs ds → lookN ns ds f = some d → ∃ v, (ns.zip vs).lookup f = some v ∧ Rep K p B H v d
  | [], _, _, _, _, _, h => by simp [lookN] at h
  | n :: ns, [], _, _, hl, _, _ => by simp at hl
  | n :: ns, v :: vs, _, d, hl, .cons r t, h => by
    simp only [lookN] at h
    rw [List.zip_cons_cons, List.lookup_cons]
    by_cases e : f = n
    · rw [if_pos e] at h
      cases h
      exact ⟨v, by rw [beq_iff_eq.mpr e], r⟩
    · rw [if_neg e] at h
      obtain ⟨w, e1, r1⟩ := lookN_rep (by simpa using hl) t h
      exact ⟨w, by rw [beq_eq_false_iff_ne.mpr e]; exact e1, r1⟩
theorem zip_no {m : Str} : ∀ {ns : List Str} {vs : List V}, m ∉ ns → (ns.zip vs).lookup m = none
  | [], _, _ => rfl
  | _ :: _, [], _ => rfl
  | n :: ns, v :: vs, h => by
    have hne : m ≠ n := fun z => h (by rw [z]; exact List.mem_cons_self)
    rw [List.zip_cons_cons, List.lookup_cons, beq_eq_false_iff_ne.mpr hne]
    exact zip_no fun z => h (List.mem_cons_of_mem _ z)
end
section
variable {X : Cx} {p : Addr} {e o : Expr} {pos : Pos} {R : RC} {c f m : Str} {Ca : Addr}
theorem ie_fld {fo : XM} (hn : PySem.W.nsIn X.K mainGlobals c = some (some (.ref Ca))) (hc : Cls X.K Ca) (hf : NoAttr X.K Ca f) (h : PE X o (tI X.K p (fo R))) (hb : attributeBase o f X.env (eval o X.env) = eval o X.env) :
    PE X (.Attribute o f pos) (tI X.K p (xFld c f fo R)) := (pe_fld h hb).imp fun σ H Q q => by
  obtain ⟨env, S, B0, oa, f0, w, e1, k⟩ := q
  unfold xFld at e1
  obtain ⟨x, ex, e1⟩ := Option.bind_eq_some_iff.mp e1
  obtain ⟨d, ed, rfl⟩ := Option.map_eq_some_iff.mp e1
  refine ⟨env, S, B0, oa, f0, x, ex, fun v H1 f1 k1 r1 => ?_⟩
  generalize x.1 = dx at r1 ed
  cases r1 with
  | ins hn' hH hl nb q =>
    simp only [fldD] at ed
    split at ed
    · rename_i hcc
      subst hcc
      rw [hn] at hn'
      cases hn'
      obtain ⟨v, e2, r2⟩ := lookN_rep hl q ed
      exact ⟨_, _, _, _, v, rfl, hH, hc, hf, e2, k v H1 f1 k1 r2⟩
    · cases ed
  | _ => cases ed
theorem met_ht {es : List Expr} {apos : Pos} (ms : MSide X o m apos es pos) : eval (.Call (.Attribute o m apos) es [] pos) X.env = (do
      let ov ← eval o X.env
      standAt apos.atName
      let (f, first) ← holding [ov] (getMethod ov m (do return (← importBound o X.env).getD true))
      callWith pos f first (backTo pos (starEach es X.env)) (backToKw pos (keywordEach [] X.env))) := by
  have e1 : eval (.Call (.Attribute o m apos) es [] pos) X.env = (do
      let ov ← attributeBase o m X.env (eval o X.env)
      standAt apos.atName
      methodCall o m apos pos X.env ov (es.length + ([] : List Keyword).length) (backTo pos (starEach es X.env)) (backToKw pos (keywordEach [] X.env))) := rfl
  rw [e1, ms.base]
  refine congrArg _ (funext fun ov => congrArg _ (funext fun _ => ?_))
  unfold methodCall
  rw [show methodCallForm (es.length + ([] : List Keyword).length) (backTo pos (starEach es X.env)) (backToKw pos (keywordEach [] X.env)) = true from ms.few]
  refine congrArg _ (funext fun fx => ?_)
  have e2 : methodCallPos true o X.env apos pos = pure pos := by
    unfold methodCallPos
    rw [ms.line]
    rfl
  rw [e2]
  rfl
theorem ie_met {fo : XM} {fa : AM} {key x : Str} {n k : Nat} {fm : Addr} {fd : FuncData} {ps : List Str} {px apos : Pos} {e : Expr} {es : List Expr} (hn : PySem.W.nsIn X.K mainGlobals c = some (some (.ref Ca))) (hc : Cls X.K Ca) (hm : Meth X.K Ca m fm)
    (F : FnOk X.prog X.w X.K X.mg X.base CX0 k fm fd ps (spI X.K p (n + 1) (R key))) (hr : Room k X.A) (hb : Binds X.K fd ps []) (h : PE X (.Name x px) (tI X.K p (fo R))) (ha : PA X (e :: es) (tAI X.K p (fa R))) (hl : ∀ env S r, fa R env S = some r → r.1.length = n)
    (hst : starEach (e :: es) X.env = (false, eval e X.env) :: starEach es X.env) (hpl : (backTo pos (starEach es X.env)).any (·.1) = false) (ms : MSide X (.Name x px) m apos (e :: es) pos) :
    PE X (.Call (.Attribute (.Name x px) m apos) (e :: es) [] pos) (tI X.K p (xMet c m key fo fa R)) := (pe_meth h hc hm F hr hb .nil pass0 ha hst hpl (met_ht ms)).imp fun σ H Q q => by
  obtain ⟨env, S, B0, oa, f0, w, e1, kk⟩ := q
  unfold xMet at e1
  obtain ⟨x, ex, e1⟩ := Option.bind_eq_some_iff.mp e1
  split at e1
  · rename_i hmb
    obtain ⟨y, ey, e9⟩ := Option.bind_eq_some_iff.mp e1
    refine ⟨env, S, B0, oa, f0, x, ex, fun v H1 f1 k1 r1 => ?_⟩
    generalize hdx : x.1 = dx at r1 hmb
    have r1' := r1
    cases r1 with
    | ins hn' hH hlen nb q =>
      simp only [metB, Bool.and_eq_true, decide_eq_true_eq] at hmb
      obtain ⟨hcc, hno⟩ := hmb
      subst hcc
      rw [hn] at hn'
      cases hn'
      refine ⟨_, _, _, rfl, hH, zip_no hno, env, _, B0, oa, f1, y, ey, fun vs H2 f2 k2 r2 => ?_⟩
      dsimp only
      rw [List.append_nil]
      have hb : ∀ b, Bf (Bf B0 p oa) p oa0 b → Bf B0 p oa b := fun b h => by
        rcases h with h | h | h
        · exact h
        · exact .inr (.inl h)
        · exact absurd h own0
      have hb' : ∀ b, Bf B0 p oa b → Bf (Bf B0 p oa) p oa0 b := fun b h => .inl h
      obtain ⟨us, e2, r3⟩ := f2.pool
      have rs := Reps.cons (r1'.keep f1 k2) r2
      refine ⟨_, y.2, Bf B0 p oa, by rw [List.length_cons, r2.length, hl _ _ _ ey], rs.less hb, f2.mut, ⟨us, e2, r3.less hb⟩, w, ?_, fun u H3 k3 p3 r4 => ?_⟩
      · rw [← hdx]
        exact e9
      · obtain ⟨us3, e3, r5⟩ := p3
        exact kk u H3 (f2.keep k3 ⟨us3, e3, r5.less hb'⟩) ((k1.trans k2).trans k3) (r4.less hb')
    | _ => cases hmb
  · cases e1
theorem ie_new {fa : AM} {ns : List Str} {k : Nat} {fi : Addr} {fd : FuncData} {ps : List Str} {pf : Pos} {e : Expr} {es : List Expr} (hn : PySem.W.nsIn X.K mainGlobals c = some (some (.ref Ca))) (M : Mk X.K Ca fi) (F : FnOk X.prog X.w X.K X.mg X.base CX0 k fi fd ps (spInit Ca ns)) (hr : Room (k + 1) X.A)
    (hg : Gl X c) (hm : X.mg c = some (.ref Ca)) (hb : Binds X.K fd ps []) (ha : PA X (e :: es) (tAI X.K p (fa R))) (hdb : (c == ("__debug__" : Str)) = false) (hst : starEach (e :: es) X.env = (false, eval e X.env) :: starEach es X.env) (hpl : (backTo pos (starEach es X.env)).any (·.1) = false) :
    PE X (.Call (.Name c pf) (e :: es) [] pos) (tI X.K p (xNew c ns fa R)) := (pe_make M F hr hg hm hb .nil pass0 ha hdb hst hpl).imp fun σ H Q q => by
  obtain ⟨env, S, B0, oa, f0, w, e1, kk⟩ := q
  unfold xNew at e1
  obtain ⟨y, ey, e1⟩ := Option.bind_eq_some_iff.mp e1
  split at e1
  · rename_i hlen
    cases e1
    refine ⟨env, S, B0, oa, f0, y, ey, fun vs H1 f1 k1 r1 x dx hx hdx ne => ?_⟩
    rw [List.append_nil]
    refine ⟨x, dx, vs, rfl, by rw [r1.length]; exact hlen, upd_same, rfl, ?_⟩
    rw [upd_upd]
    have sm : Same H1 (upd (upd H1 dx (.own x)) x (.ins Ca dx (ns.zip vs))) := fun b o q => by
      rw [upd_ne (ne_of_none q hx), upd_ne (ne_of_none q hdx)]
      exact q
    refine kk _ _ (f1.same sm) (k1.trans (Keep.of sm)) (.ins hn upd_same (by rw [r1.length]; exact hlen.symm) (f1.new hx) (r1.same sm))
  · cases e1
end
/-- __init__ of a class of two fields -/
theorem ok_init2 {P : Program} {w : World} {K : PySem.W.Frag} {mg : Str → Option Value} {base : Heap} {qual s a b f g : Str} {st : Stmt} {fa Ca : Addr} {fd : FuncData} {q1 q2 q3 q4 q5 q6 q7 q8 : Pos} (F : Fun K "__init__" qual st fa fd) (S : FnScope [s, a, b] [s, a, b] (defScope st))
    (hb : defBody st = [.Assign [.Attribute (.Name s q1) f q2] (.Name a q3) q4, .Assign [.Attribute (.Name s q5) g q6] (.Name b q7) q8]) (vs : Vis (defScope st) s) (va : Vis (defScope st) a) (vb : Vis (defScope st) b)
    (ds : (s == ("__debug__" : Str)) = false ∧ (s == ("__classdict__" : Str)) = false) (da : (a == ("__debug__" : Str)) = false ∧ (a == ("__classdict__" : Str)) = false) (db : (b == ("__debug__" : Str)) = false ∧ (b == ("__classdict__" : Str)) = false)
    (hc : Cls K Ca) (hf : NoAttr K Ca f) (hg : NoAttr K Ca g) (hfg : f ≠ g) : FnOk P w K mg base CX0 1 fa fd [s, a, b] (spInit Ca [f, g]) := by
  refine F.ok S (fun vs H Q E h => ?_) (fun cdv A outer s H vs Q E hr h => ?_)
  · obtain ⟨x, dx, us, rfl, hl, _⟩ := h
    simpa using hl
  obtain ⟨x, dx, us, rfl, hl, hx, q⟩ := h
  obtain ⟨u1, u2, rfl⟩ : ∃ u1 u2, us = [u1, u2] := by
    match us, hl with
    | [u1, u2], _ => exact ⟨u1, u2, rfl⟩
  rw [hb]
  refine ⟨_, pss_cons (ps_fld (pe_var (i := 0) rfl vs ds.1 ds.2) (pe_var (i := 1) rfl va da.1 da.2) (by rfl)) (pss_one (ps_fld (pe_var (i := 0) rfl vs ds.1 ds.2) (pe_var (i := 2) rfl vb db.1 db.2) (by rfl))), ?_⟩
  refine ⟨u1, rfl, .ref x, rfl, x, Ca, dx, [], rfl, hx, hc, hf, by simp, ?_⟩
  refine ⟨u2, rfl, .ref x, rfl, x, Ca, dx, _, rfl, upd_same, hc, hg, by simp [putF], ?_⟩
  rw [upd_upd]
  have e : putF g u2 (putF f u1 []) = [f, g].zip [u1, u2] := by
    simp [putF, hfg]
  show Q .non (upd H x (.ins Ca dx (putF g u2 (putF f u1 []))))
  rw [e]
  exact q
end Ip

set_option maxHeartbeats 2000000
/-! IpG: from the text to its meaning; that the meaning is the text's. -/
namespace Ip
open PySem L2

structure Ctx where
  N : List Str
  sc : Scope
  bs : Option Scope
  fns : List (Str × Nat)
  bls : List Str
  cs : List (Str × D)
  own : List Str := []
  frz : List (Nat × List Nat) := []
  cls : List ClsI := []

def findIx : List Str → Str → Option Nat
  | [], _ => none
  | y :: ys, x => if x = y then some 0 else (findIx ys x).map (· + 1)
theorem findIx_get : ∀ {N : List Str} {x : Str} {i : Nat}, findIx N x = some i → N[i]? = some x
  | [], _, _, h => by cases h
  | y :: ys, x, i, h => by
    unfold findIx at h
    split at h
    · rename_i e
      cases h
      rw [e]
      rfl
    · obtain ⟨j, ej, rfl⟩ := Option.map_eq_some_iff.mp h
      have q := findIx_get ej
      simpa using q
def visB (sc : Scope) (x : Str) : Bool := match sc.names.lookup x with
  | some .local => true
  | some .cell => true
  | some .free => true
  | _ => false
theorem visB_ok {sc : Scope} {x : Str} (h : visB sc x = true) : Vis sc x := by
  unfold visB at h
  unfold Vis
  split at h
  · exact .inl (by assumption)
  · exact .inr (.inl (by assumption))
  · exact .inr (.inr (by assumption))
  · cases h
def locB (C : Ctx) (x : Str) : Bool := match C.sc.names.lookup x with
  | some .local => true
  | some .cell => match C.bs with
    | none => true
    | some s => decide (s.names.lookup x = some .cell)
  | _ => false
def glB (sc : Scope) (x : Str) : Bool := decide (sc.names.lookup x = some .globalImplicit)
def plainN (x : Str) : Bool := !(x == ("__debug__" : Str)) && !(x == ("__classdict__" : Str))
def notStar : Expr → Bool
  | .Starred _ _ => false
  | _ => true
def notSlice : Expr → Bool
  | .Slice _ _ _ _ => false
  | _ => true
def notSet : Expr → Bool
  | .Set _ _ _ => false
  | _ => true
def notComp : Expr → Bool
  | .ListComp _ _ _ _ => false
  | .SetComp _ _ _ _ => false
  | .DictComp _ _ _ _ _ => false
  | _ => true
theorem star_plain {e : Expr} {es : List Expr} {env : Env} (h : notStar e = true) : starEach (e :: es) env = (false, eval e env) :: starEach es env := by cases e <;> first | rfl | cases h
theorem star_any {env : Env} {pos : Pos} : ∀ {es : List Expr}, es.all notStar = true → (backTo pos (starEach es env)).any (·.1) = false
  | [], _ => rfl
  | e :: es, h => by
    rw [List.all_cons, Bool.and_eq_true] at h
    rw [star_plain h.1]
    have ih := star_any (env := env) (pos := pos) h.2
    simp only [backTo, List.map_cons, List.any_cons, Bool.false_or] at ih ⊢
    exact ih
theorem plainIx_of {e : Expr} (h : notSlice e = true) : PlainIx e := by cases e <;> first | exact fun _ _ => rfl | cases h
theorem folded_of {e : Expr} {env : Env} (h : notSet e = true) : ∀ x, foldedSetIterable e env x = pure x := by cases e <;> first | exact fun _ => rfl | cases h
theorem sw_of {e : Expr} {t : Option Expr} {l : Nat} {env : Env} (h : notComp e = true) : swapsWith e t l env = pure false := by cases e <;> first | rfl | cases h
def notName : Expr → Bool
  | .Name _ _ => false
  | _ => true
theorem sw_tgt {e t : Expr} {l : Nat} {env : Env} (h : notName t = true) : swapsWith e (some t) l env = pure false := by
  cases t <;> first | cases h; done | (cases e <;> rfl)

/-- the context stands for X -/
structure Mt (p : Addr) (C : Ctx) (X : Cx) (R : RC) : Prop where
  N : X.N = C.N
  nd : C.N.Nodup
  sc : X.env.scope = C.sc
  fn : ∀ x, (match C.bs with | none => True | some s => s.names.lookup x = some .cell) → X.fn x = true
  calm : X.calm = true
  units : X.A.units + 200 < cLine
  xe : X.xe = fun _ _ => False
  fns : ∀ x m, C.fns.lookup x = some m → ∃ k f fd ps, FnOk X.prog X.w X.K X.mg X.base CX0 k f fd ps (spI X.K p m (R x)) ∧ Room k X.A ∧ X.mg x = some (.ref f) ∧ PySem.W.keepIn X.K (.ref f) = true ∧ Binds X.K fd ps []
  bls : ∀ x ∈ C.bls, X.mg x = none
  cs : ∀ x d, C.cs.lookup x = some d → ∃ u v, X.mg x = some u ∧ RelV v u ∧ ∀ B H, Rep X.K p B H v d
  room : Room 2 X.A
  cls : ∀ c ∈ C.cls, ∃ Ca, PySem.W.nsIn X.K mainGlobals c.name = some (some (.ref Ca)) ∧ Cls X.K Ca ∧ (∀ f ∈ c.flds, NoAttr X.K Ca f) ∧
    (∀ m ∈ c.meths, ∃ k fm fd ps, Meth X.K Ca m.1 fm ∧ FnOk X.prog X.w X.K X.mg X.base CX0 k fm fd ps (spI X.K p (m.2.2 + 1) (R m.2.1)) ∧ Room k X.A ∧ Binds X.K fd ps []) ∧
    X.mg c.name = some (.ref Ca) ∧ ∃ fi fd ps, Mk X.K Ca fi ∧ FnOk X.prog X.w X.K X.mg X.base CX0 1 fi fd ps (spInit Ca c.flds) ∧ Binds X.K fd ps []
section
variable {p : Addr} {C : Ctx} {X : Cx} {R : RC}
theorem Mt.vis (m : Mt p C X R) {x : Str} (h : visB C.sc x = true) : Vis X.env.scope x := by
  rw [m.sc]
  exact visB_ok h
theorem Mt.gl (m : Mt p C X R) {x : Str} (h : glB C.sc x = true) : Gl X x := by
  have h := of_decide_eq_true h
  show X.env.scope.names.lookup x = _
  rw [m.sc]
  exact h
theorem Mt.ix (m : Mt p C X R) {x : Str} {i : Nat} (h : findIx C.N x = some i) : X.N[i]? = some x := by
  rw [m.N]
  exact findIx_get h
theorem Mt.loc (m : Mt p C X R) {x : Str} (h : locB C x = true) : L2.Loc X.env.scope x ∧ (X.fn x = true ∨ X.env.scope.names.lookup x = some .local) := by
  unfold locB at h
  unfold L2.Loc
  rw [m.sc]
  split at h
  · rename_i e
    exact ⟨.inl e, .inr e⟩
  · rename_i e
    refine ⟨.inr e, .inl (m.fn x ?_)⟩
    split at h
    · trivial
    · exact of_decide_eq_true h
  · cases h
theorem Mt.hN (m : Mt p C X R) : X.N.Nodup := by
  rw [m.N]
  exact m.nd
/-- the block of a comprehension -/
theorem Mt.blk (m : Mt p C X R) (s : Shared) (H : Hp) (scope : Scope) (cl : List (Str × Addr)) (L : Addr) (fp : List Addr) :
    Mt p { C with sc := relS scope C.sc, bs := some scope } (X.blk s H scope (compEnvC scope cl L X.env) fp) R where
  N := m.N
  nd := m.nd
  sc := by
    have e : (compEnvC scope cl L X.env).scope = relS scope X.env.scope := rfl
    rw [m.sc] at e
    exact e
  fn := fun x h => by
    show (scope.names.lookup x == some .cell) = true
    have h : scope.names.lookup x = some .cell := h
    rw [h]
    rfl
  calm := m.calm
  units := m.units
  xe := rfl
  fns := m.fns
  bls := m.bls
  cs := m.cs
  room := m.room
  cls := m.cls
end

/-! ### operators -/
def binD : Operator → Option (D → D → Option D)
  | .Add => some addD
  | .Sub => some subD
  | .Mult => some mulX
  | .Mod => some modD
  | .FloorDiv => some divD
  | _ => none
def cmpD : CmpOp → Option (D → D → Option D)
  | .Eq => some eqD
  | .NotEq => some neX
  | .Lt => some ltD
  | .LtE => some leD
  | .Gt => some gtD
  | .GtE => some geD
  | .In => some inD
  | .NotIn => some ninD
  | .Is => some isND
  | .IsNot => some isNND
section
variable {p : Addr} {X : Cx}
theorem bin_ok {op : Operator} {g : D → D → Option D} (h : binD op = some g) : ∃ r, OpR X (binaryOp op) r ∧ VR2 X.K p r g := by
  cases op <;> simp only [binD] at h <;> first
    | cases h; done
    | skip
  · cases h; exact ⟨_, op_addX, vr_add⟩
  · cases h; exact ⟨_, op_sub, vr_int0⟩
  · cases h; exact ⟨_, op_mulX, vr_mulX⟩
  · cases h; exact ⟨_, op_modN, vr_int modI_ok⟩
  · cases h; exact ⟨_, op_fdivN, vr_int divI_ok⟩
theorem cmp_ok {op : CmpOp} {g : D → D → Option D} (hu : X.A.units + 200 < cLine) (h : cmpD op = some g) : ∃ r, OpR X (compareOp op) r ∧ VR2 X.K p r g := by
  cases op <;> simp only [cmpD] at h
  · cases h; exact ⟨_, op_eq.or (op_eqD (by omega)), vr_eq⟩
  · cases h; exact ⟨_, (op_ne.or (op_neD (by omega))).or (op_ne_dictA (by omega)), vr_neX⟩
  · cases h; exact ⟨_, op_lt.or op_lt_str, vr_ord⟩
  · cases h; exact ⟨_, op_le.or op_le_str, vr_ord⟩
  · cases h; exact ⟨_, op_gt.or op_gt_str, vr_ord⟩
  · cases h; exact ⟨_, op_ge.or op_ge_str, vr_ord⟩
  · cases h; exact ⟨_, op_isN, vr_isN⟩
  · cases h; exact ⟨_, op_notN, vr_isNN⟩
  · cases h; exact ⟨_, op_inX hu, vr_in⟩
  · cases h; exact ⟨_, op_ninX hu, vr_nin⟩
end
/-- built-in functions and classes that are called -/
def listX (ds : List D) : Option (List D) := (listL ds).orElse fun _ => listR ds
def listD (ds : List D) : Option D := (listX ds).map .lst
def sortD (ds : List D) : Option D := (sortL ds).map .lst
def dictD (ds : List D) : Option D := (dictL ds).map fun e => .dic e.1 e.2
def rngD : List D → Option D
  | [.int j] => some (.rng 0 j)
  | [.int i, .int j] => some (.rng i j)
  | _ => none
def rRng1 : List V → Hp → VK → Prop := fun vs H Q => ∃ j, vs = [V.int j] ∧ ∀ q, H q = none → Q (.ref q) (upd H q (.rng 0 j))
def rRng2 : List V → Hp → VK → Prop := fun vs H Q => ∃ i j, vs = [V.int i, V.int j] ∧ ∀ q, H q = none → Q (.ref q) (upd H q (.rng i j))
theorem cr_rng1 {X : Cx} : CallR X (.type "range") rRng1 := by
  intro pins s σ H vs us Q I r h
  obtain ⟨j, rfl, q⟩ := h
  obtain ⟨u, rfl, ru⟩ := r.one
  obtain ⟨t, rfl⟩ := ru
  refine PySem.call_range_1 ⟨.ref s.heap.objs.size, upd H s.heap.objs.size (.rng 0 j), I.laid (t' := s.toks + 1 + 1) (fun b o e => Heap.get?_push_of_some _ e) (Nat.le_refl _) ?_, rfl, q _ (I.hok.fresh (Nat.le_refl _))⟩
  exact ⟨_, t, _, Heap.get?_push_size _ rfl⟩
theorem vra_rng {K : PySem.W.Frag} {p : Addr} : VRA K p (fun xs H Q => rRng1 xs H Q ∨ rRng2 xs H Q) rngD := fun B H xs ds d Q hm r e k => by
  unfold rngD at e
  split at e
  · obtain ⟨v, rfl, r'⟩ := r.one_inv
    cases e
    rw [r'.isInt]
    exact .inl ⟨_, rfl, fun q hq => k _ _ (same_new hq) (.rng upd_same (hm.new hq))⟩
  · obtain ⟨v, w, rfl, r1, r2⟩ := r.two_inv
    cases e
    rw [r1.isInt, r2.isInt]
    exact .inr ⟨_, _, rfl, fun q hq => k _ _ (same_new hq) (.rng upd_same (hm.new hq))⟩
  · cases e
def blt1 (x : Str) : Option (List D → Option D) :=
  if x = ("len" : Str) then some lenD
  else if x = ("int" : Str) then some intOf
  else if x = ("isinstance" : Str) then some isiD
  else if x = ("tuple" : Str) then some tupOf
  else if x = ("max" : Str) then some maxD
  else none
def blt2 (x : Str) : Option (List D → Option D) :=
  if x = ("all" : Str) then some allD
  else if x = ("any" : Str) then some anyD
  else if x = ("min" : Str) then some minD
  else if x = ("sum" : Str) then some sumD
  else none
def blt3 (x : Str) : Option (List D → Option D) :=
  if x = ("sorted" : Str) then some sortD
  else if x = ("list" : Str) then some listD
  else if x = ("dict" : Str) then some dictD
  else if x = ("range" : Str) then some rngD
  else if x = ("str" : Str) then some strD
  else none
def bltD (x : Str) : Option (List D → Option D) := match blt1 x with
  | some g => some g
  | none => match blt2 x with
    | some g => some g
    | none => blt3 x
def BltOk (p : Addr) (X : Cx) (x : Str) (g : List D → Option D) : Prop := x ≠ "__name__" ∧
    ((∃ id r, bootBuiltins x = some (.builtin id) ∧ CallR X (.builtin id) r ∧ VRA X.K p r g) ∨ ∃ T r, bootBuiltins x = some (.type T) ∧ CallR X (.type T) r ∧ VRA X.K p r g)
theorem blt1_ok {p : Addr} {X : Cx} {x : Str} {g : List D → Option D} (hc : X.calm = true) (hu : X.A.units + 200 < cLine) (h : blt1 x = some g) : BltOk p X x g := by
  unfold blt1 at h
  split at h
  · rename_i e; subst e; cases h
    exact ⟨by decide, .inl ⟨_, _, PySem.boot_len, call_len, vra_len⟩⟩
  split at h
  · rename_i e; subst e; cases h
    exact ⟨by decide, .inr ⟨_, _, by decide +kernel, call_int1, vra_int⟩⟩
  split at h
  · rename_i e; subst e; cases h
    exact ⟨by decide, .inl ⟨_, _, by decide +kernel, call_isi, vra_isi⟩⟩
  split at h
  · rename_i e; subst e; cases h
    exact ⟨by decide, .inr ⟨_, _, by decide +kernel, call_tupN, vra_tup⟩⟩
  split at h
  · rename_i e; subst e; cases h
    exact ⟨by decide, .inl ⟨_, _, by decide +kernel, (call_max2 hc).or (cr_max hc), vra_max⟩⟩
  · cases h
theorem blt2_ok {p : Addr} {X : Cx} {x : Str} {g : List D → Option D} (hc : X.calm = true) (hu : X.A.units + 200 < cLine) (h : blt2 x = some g) : BltOk p X x g := by
  unfold blt2 at h
  split at h
  · rename_i e; subst e; cases h
    exact ⟨by decide, .inl ⟨_, _, by decide +kernel, cr_all hc, vra_all⟩⟩
  split at h
  · rename_i e; subst e; cases h
    exact ⟨by decide, .inl ⟨_, _, by decide +kernel, cr_any hc, vra_any⟩⟩
  split at h
  · rename_i e; subst e; cases h
    exact ⟨by decide, .inl ⟨_, _, by decide +kernel, (call_min2 hc).or (cr_min hc), vra_min⟩⟩
  split at h
  · rename_i e; subst e; cases h
    exact ⟨by decide, .inl ⟨_, _, by decide +kernel, (cr_sum hc).or (cr_sumT hc), vra_sum⟩⟩
  · cases h
theorem blt3_ok {p : Addr} {X : Cx} {x : Str} {g : List D → Option D} (hc : X.calm = true) (hu : X.A.units + 200 < cLine) (h : blt3 x = some g) : BltOk p X x g := by
  unfold blt3 at h
  split at h
  · rename_i e; subst e; cases h
    exact ⟨by decide, .inl ⟨_, _, by decide +kernel, call_sortX hc hu, vla_sort.vra⟩⟩
  split at h
  · rename_i e; subst e; cases h
    exact ⟨by decide, .inr ⟨_, _, by decide +kernel, call_list_of.or (call_listR hc), (vla_list.or vla_listR).vra⟩⟩
  split at h
  · rename_i e; subst e; cases h
    exact ⟨by decide, .inr ⟨_, _, by decide +kernel, call_dictX hc, vda_dict.vra⟩⟩
  split at h
  · rename_i e; subst e; cases h
    exact ⟨by decide, .inr ⟨_, _, by decide +kernel, cr_rng1.or cr_range2, vra_rng⟩⟩
  split at h
  · rename_i e; subst e; cases h
    exact ⟨by decide, .inr ⟨_, _, by decide +kernel, call_str_int, vra_str⟩⟩
  · cases h
theorem blt_ok {p : Addr} {X : Cx} {x : Str} {g : List D → Option D} (hc : X.calm = true) (hu : X.A.units + 200 < cLine) (h : bltD x = some g) : BltOk p X x g := by
  unfold bltD at h
  cases h1 : blt1 x with
  | some g1 =>
    rw [h1] at h
    cases h
    exact blt1_ok hc hu h1
  | none =>
    rw [h1] at h
    cases h2 : blt2 x with
    | some g2 =>
      rw [h2] at h
      cases h
      exact blt2_ok hc hu h2
    | none =>
      rw [h2] at h
      exact blt3_ok hc hu h
/-- those that give a new list -/
def bltL (x : Str) : Option (List D → Option (List D)) :=
  if x = ("list" : Str) then some listX
  else none
theorem bltL_ok {p : Addr} {X : Cx} {x : Str} {g : List D → Option (List D)} (hc : X.calm = true) (h : bltL x = some g) : x ≠ "__name__" ∧ ∃ T r, bootBuiltins x = some (.type T) ∧ CallR X (.type T) r ∧ VLA X.K p r g := by
  unfold bltL at h
  split at h
  · rename_i e; subst e; cases h
    exact ⟨by decide, _, _, by decide +kernel, call_list_of.or (call_listR hc), vla_list.or vla_listR⟩
  · cases h
/-- built-in classes as values -/
def tyOf (x : Str) : Option String :=
  if x = ("int" : Str) then some "int"
  else if x = ("str" : Str) then some "str"
  else if x = ("bool" : Str) then some "bool"
  else if x = ("tuple" : Str) then some "tuple"
  else if x = ("list" : Str) then some "list"
  else none
theorem ty_ok {x : Str} {n : String} (h : tyOf x = some n) : x ≠ "__name__" ∧ bootBuiltins x = some (.type n) := by
  unfold tyOf at h
  split at h
  · rename_i e; subst e; cases h; exact ⟨by decide, by decide +kernel⟩
  split at h
  · rename_i e; subst e; cases h; exact ⟨by decide, by decide +kernel⟩
  split at h
  · rename_i e; subst e; cases h; exact ⟨by decide, by decide +kernel⟩
  split at h
  · rename_i e; subst e; cases h; exact ⟨by decide, by decide +kernel⟩
  split at h
  · rename_i e; subst e; cases h; exact ⟨by decide, by decide +kernel⟩
  · cases h

/-! ### targets -/
def tgNames : List Expr → Option (List Str)
  | [] => some []
  | .Name x _ :: es => (tgNames es).map fun xs => x :: xs
  | _ => none
def ixAll (N : List Str) : List Str → Option (List Nat)
  | [] => some []
  | x :: xs => (findIx N x).bind fun i => (ixAll N xs).map fun is => i :: is
def compG (C : Ctx) : Expr → Option Tg
  | .Name x _ => if locB C x then (findIx C.N x).map .name else none
  | .Tuple es _ _ => (tgNames es).bind fun xs => if xs.all (locB C) then (ixAll C.N xs).map .tup else none
  | _ => none
theorem compG_all {p : Addr} {C : Ctx} {X : Cx} {R : RC} (m : Mt p C X R) : ∀ {es : List Expr} {xs : List Str} {is : List Nat}, tgNames es = some xs → xs.all (locB C) = true → ixAll C.N xs = some is → PGs X es (gAll is) ∧ (assignEach es X.env).length = is.length ∧ (assignEach es X.env).findIdx? (·.1) = none
  | [], xs, is, h1, h2, h3 => by
    cases h1
    cases h3
    exact ⟨pgs_nil, rfl, rfl⟩
  | e :: es, xs, is, h1, h2, h3 => by
    cases e <;> simp only [tgNames] at h1 <;> first
      | cases h1; done
      | skip
    obtain ⟨ys, ey, rfl⟩ := Option.map_eq_some_iff.mp h1
    rw [List.all_cons, Bool.and_eq_true] at h2
    simp only [ixAll] at h3
    obtain ⟨i, ei, h3⟩ := Option.bind_eq_some_iff.mp h3
    obtain ⟨js, ej, rfl⟩ := Option.map_eq_some_iff.mp h3
    obtain ⟨q1, q2, q3⟩ := compG_all m ey h2.2 ej
    obtain ⟨l1, l2⟩ := m.loc h2.1
    refine ⟨pgs_cons (pg_name m.hN (m.ix ei) l1 l2) q1, ?_, ?_⟩
    · show (assignEach es X.env).length + 1 = _
      rw [q2]
      rfl
    · show List.findIdx? (·.1) ((false, assign _ X.env) :: assignEach es X.env) = none
      rw [List.findIdx?_cons, q3]
      rfl
theorem compG_ok {p : Addr} {C : Ctx} {X : Cx} {R : RC} (m : Mt p C X R) {tg : Expr} {t : Tg} (h : compG C tg = some t) : ∃ g, PG X tg g ∧ TgOk X.K p t g := by
  cases tg <;> simp only [compG] at h <;> first
    | cases h; done
    | skip
  · split at h
    · rename_i hl
      obtain ⟨i, ei, rfl⟩ := Option.map_eq_some_iff.mp h
      obtain ⟨l1, l2⟩ := m.loc hl
      exact ⟨_, pg_name m.hN (m.ix ei) l1 l2, tg_name⟩
    · cases h
  · obtain ⟨xs, ex, h⟩ := Option.bind_eq_some_iff.mp h
    split at h
    · rename_i hl
      obtain ⟨is, ei, rfl⟩ := Option.map_eq_some_iff.mp h
      obtain ⟨q1, q2, q3⟩ := compG_all m ex hl ei
      exact ⟨_, pg_seq m.calm q1 q2 q3, tg_tup⟩
    · cases h
end Ip

set_option maxHeartbeats 4000000
/-! IpH: expressions compiled. -/
namespace Ip
open PySem L2

def tgOwn (C : Ctx) (scope : Scope) : Expr → Option (List (Str × Nat))
  | .Name x _ => (findIx C.N x).map fun i => [(x, i)]
  | .Tuple es _ _ => (tgNames es).bind fun xs => (ixAll C.N xs).map fun is => xs.zip is
  | _ => none
/-- range(..), the built-in one -/
def rangeOf (C : Ctx) : Expr → Option (List Expr)
  | .Call (.Name x _) es [] _ => if x = ("range" : Str) ∧ x ∈ C.bls ∧ glB C.sc x = true then some es else none
  | _ => none
theorem rangeOf_ok {C : Ctx} {e : Expr} {es : List Expr} (h : rangeOf C e = some es) : ∃ q pos, e = .Call (.Name "range" q) es [] pos ∧ ("range" : Str) ∈ C.bls ∧ glB C.sc ("range" : Str) = true := by
  unfold rangeOf at h
  split at h
  · split at h
    · rename_i hc
      obtain ⟨rfl, h2, h3⟩ := hc
      cases h
      exact ⟨_, _, rfl, h2, h3⟩
    · cases h
  · cases h
/-- zip(..), the built-in one -/
def zipOf (C : Ctx) : Expr → Option (List Expr)
  | .Call (.Name x _) es [] _ => if x = ("zip" : Str) ∧ x ∈ C.bls ∧ glB C.sc x = true then some es else none
  | _ => none
theorem zipOf_ok {C : Ctx} {e : Expr} {es : List Expr} (h : zipOf C e = some es) : ∃ q pos, e = .Call (.Name "zip" q) es [] pos ∧ ("zip" : Str) ∈ C.bls ∧ glB C.sc ("zip" : Str) = true := by
  unfold zipOf at h
  split at h
  · split at h
    · rename_i hc
      obtain ⟨rfl, h2, h3⟩ := hc
      cases h
      exact ⟨_, _, rfl, h2, h3⟩
    · cases h
  · cases h
def isTupE : Expr → Bool
  | .Tuple _ _ _ => true
  | _ => false
/-- len(x), x a list of the frame's own -/
def lenOwn (C : Ctx) (f : Str) (es : List Expr) : Option Nat := if f = ("len" : Str) ∧ f ∈ C.bls then match es with
    | [.Name x _] => if x ∈ C.own ∧ plainN x = true ∧ visB C.sc x = true then findIx C.N x else none
    | _ => none
  else none
def xLenO (i : Nat) : XM := fun _ env S => match env[i]? with
  | some (some (.own xs)) => some (.int xs.length, S)
  | some (some (.sh d)) => (lenD [d]).map fun r => (r, S)
  | _ => none
/-- a method's base needs no care -/
def baseB : Expr → Bool
  | .Call (.Name _ _) [] [] _ => false
  | _ => true
theorem base_of {o : Expr} {a : Str} {env : Env} {w : Sem Value} (h : baseB o = true) : attributeBase o a env w = w := by
  unfold attributeBase
  split
  · cases h
  · rfl
theorem few_all {env : Env} {pos : Pos} : ∀ {es : List Expr}, es.all notStar = true → (backTo pos (starEach es env)).all (fun x => !x.1) = true
  | [], _ => rfl
  | e :: es, h => by
    rw [List.all_cons, Bool.and_eq_true] at h
    rw [star_plain h.1]
    have ih := few_all (env := env) (pos := pos) h.2
    simp only [backTo, List.map_cons, List.all_cons, Bool.not_false, Bool.true_and] at ih ⊢
    exact ih
theorem few_of {env : Env} {pos : Pos} {es : List Expr} (h : es.all notStar = true) (hl : es.length < 29) :
    ((backTo pos (starEach es env)).all (fun x => !x.1) && (backToKw pos (keywordEach [] env)).all (fun x => x.1.isSome) && decide (es.length + ([] : List Keyword).length + (if ([] : List Keyword).isEmpty then 0 else 1) < 30)) = true := by
  rw [few_all h]
  have e1 : (backToKw pos (keywordEach [] env)).all (fun x => x.1.isSome) = true := rfl
  rw [e1]
  have e2 : decide (es.length + ([] : List Keyword).length + (if ([] : List Keyword).isEmpty then 0 else 1) < 30) = true := decide_eq_true (by simp; omega)
  rw [e2]
  rfl
def fldOf (cs : List ClsI) (f : Str) : Option ClsI := cs.find? fun c => decide (f ∈ c.flds)
def metIn : List (Str × Str × Nat) → Str → Option (Str × Nat)
  | [], _ => none
  | a :: as, m => if a.1 = m then some a.2 else metIn as m
def metOf : List ClsI → Str → Option (ClsI × Str × Nat)
  | [], _ => none
  | c :: cs, m => match metIn c.meths m with
    | some r => some (c, r)
    | none => metOf cs m
def clsOf (cs : List ClsI) (x : Str) : Option ClsI := cs.find? fun c => decide (c.name = x)
def isNameE : Expr → Bool
  | .Name _ _ => true
  | _ => false
mutual
def compE : Nat → Ctx → Expr → Option XM
  | 0, _, _ => none
  | n + 1, C, .Constant (.int i) _ _ => some (xC (.int i))
  | n + 1, C, .Constant (.bool b) _ _ => some (xC (.bl b))
  | n + 1, C, .Constant .none _ _ => some (xC .non)
  | n + 1, C, .Constant (.str x) _ _ => some (xC (.str x))
  | n + 1, C, .Name x _ => if plainN x then
      if visB C.sc x then (findIx C.N x).map xVar
      else if glB C.sc x then match C.cs.lookup x with
        | some d => some (xC d)
        | none => if x ∈ C.bls then (tyOf x).map fun t => xC (.ty t) else none
      else none
    else none
  | n + 1, C, .BinOp a op b _ => (compE n C a).bind fun f => (compE n C b).bind fun g => (binD op).map fun o => xBin o f g
  | n + 1, C, .UnaryOp .Not a _ => (compE n C a).map xNot
  | n + 1, C, .UnaryOp .USub a _ => (compE n C a).map (xUn negD)
  | n + 1, C, .BoolOp .And es _ => compB n C true es
  | n + 1, C, .BoolOp .Or es _ => compB n C false es
  | n + 1, C, .IfExp c a b _ => (compT n C c).bind fun t => (compE n C a).bind fun f => (compE n C b).map fun g => xIf t f g
  | n + 1, C, .Compare a [op] [b] _ => if notSet b then (compE n C a).bind fun f => (compE n C b).bind fun g => (cmpD op).map fun o => xBin o f g else none
  | n + 1, C, .Compare a [op, op'] [b, c] _ => if notSet b && notSet c then (compE n C a).bind fun f => (compE n C b).bind fun g => (compE n C c).bind fun h => (cmpD op).bind fun o => (cmpD op').map fun o' => xChain o o' f g h else none
  | n + 1, C, .Tuple es _ _ => (compA n C es).map xTup
  | n + 1, C, .List es _ => (compA n C es).map fun f => xLst (lDisp f)
  | n + 1, C, .ListComp elt [⟨tg, it, ifs, 0⟩] scope _ => (compC n C elt tg it ifs scope).map xLst
  | n + 1, C, .ListComp elt [⟨tg, it, ifs, 0⟩, ⟨tg1, it1, ifs1, 0⟩] scope _ => (compC2 n C elt tg it ifs tg1 it1 ifs1 scope).map xLst
  | n + 1, C, .Dict [] [] _ => some (xC (.dic [] []))
  | n + 1, C, .Dict [none, some k] [m, v] _ => (compE n C m).bind fun f => (compE n C k).bind fun g => (compE n C v).map fun h => xStar f g h
  | n + 1, C, .Dict (k :: ks) vs _ => if (k :: ks).all (·.isSome) && decide ((k :: ks).length = vs.length) && decide ((k :: ks).length ≤ 15) then (compP n C (k :: ks) vs).map xDict else none
  | n + 1, C, .Attribute o f _ => if baseB o then (fldOf C.cls f).bind fun c => (compE n C o).map fun g => xFld c.name f g else none
  | n + 1, C, .Call (.Attribute o m ap) (e :: es) [] cp => if baseB o && (ap.endLine == cp.line) && (e :: es).all notStar && decide ((e :: es).length < 29) then (compE n C o).bind fun f => (compA n C (e :: es)).bind fun g => match metOf C.cls m with
      | some (c, key, nn) => if isNameE o && decide (nn = (e :: es).length) then some (xMet c.name m key f g) else none
      | none => some (xMth m f g)
    else none
  | n + 1, C, .Subscript v (.Slice none none (some (.UnaryOp .USub (.Constant (.int 1) _ _) _)) _) _ => (compE n C v).map xRev
  | n + 1, C, .Subscript v (.Slice lo hi none _) _ => (compE n C v).bind fun f => (compO n C lo).bind fun l => (compO n C hi).map fun h => xSli f l h
  | n + 1, C, .Subscript v i _ => if notSlice i then (compE n C v).bind fun f => (compE n C i).map fun g => xIx f g else none
  | n + 1, C, .Call (.Name x _) [] [] _ => if glB C.sc x && plainN x then match C.fns.lookup x with
      | some 0 => some (xCall x aNil)
      | _ => none
    else none
  | n + 1, C, .Call (.Name x _) (e :: es) [] _ => if glB C.sc x && plainN x && (e :: es).all notStar then match lenOwn C x (e :: es) with
      | some i => some (xLenO i)
      | none => (compA n C (e :: es)).bind fun f => match C.fns.lookup x with
        | some m => if m = (e :: es).length then some (xCall x f) else none
        | none => match clsOf C.cls x with
          | some c => some (xNew c.name c.flds f)
          | none => if x ∈ C.bls then (bltD x).map fun g => xApp g f else none
    else none
  | _, _, _ => none
/-- and, or as values -/
def compB : Nat → Ctx → Bool → List Expr → Option XM
  | 0, _, _, _ => none
  | n + 1, C, k, [e] => compE n C e
  | n + 1, C, k, e :: e' :: es => (compE n C e).bind fun f => (compB n C k (e' :: es)).map fun g => if k then xAnd f g else xOr f g
  | _, _, _, _ => none
/-- tests -/
def compT : Nat → Ctx → Expr → Option TM
  | 0, _, _ => none
  | n + 1, C, .UnaryOp .Not a _ => (compT n C a).map mNot
  | n + 1, C, .BoolOp .And es _ => compW n C true es
  | n + 1, C, .BoolOp .Or es _ => compW n C false es
  | n + 1, C, .Compare a [op] [b] _ => if notSet b then (compE n C a).bind fun f => (compE n C b).bind fun g => (cmpD op).map fun o => mBl (xBin o f g) else none
  | n + 1, C, .Compare a [op, op'] [b, c] _ => if notSet b && notSet c then (compE n C a).bind fun f => (compE n C b).bind fun g => (compE n C c).bind fun h => (cmpD op).bind fun o => (cmpD op').map fun o' => mBl (xChain o o' f g h) else none
  | n + 1, C, .Call f es ks pos => (compE n C (.Call f es ks pos)).map mTru
  | n + 1, C, .Name x pos => (compE n C (.Name x pos)).map mTru
  | n + 1, C, .Subscript v i pos => (compE n C (.Subscript v i pos)).map mTru
  | _, _, _ => none
def compW : Nat → Ctx → Bool → List Expr → Option TM
  | 0, _, _, _ => none
  | n + 1, C, k, [e] => compT n C e
  | n + 1, C, k, e :: e' :: es => (compT n C e).bind fun f => (compW n C k (e' :: es)).map fun g => if k then mAnd f g else mOr f g
  | _, _, _, _ => none
def compA : Nat → Ctx → List Expr → Option AM
  | 0, _, _ => none
  | n + 1, C, [] => some aNil
  | n + 1, C, e :: es => if notStar e then (compE n C e).bind fun f => (compA n C es).map fun g => aCons f g else none
def compO : Nat → Ctx → Option Expr → Option OM
  | 0, _, _ => none
  | n + 1, C, none => some oNone
  | n + 1, C, some e => (compE n C e).map oSome
/-- pairs of a display -/
def compP : Nat → Ctx → List (Option Expr) → List Expr → Option (List (XM × XM))
  | 0, _, _, _ => none
  | n + 1, C, [], [] => some []
  | n + 1, C, some k :: ks, v :: vs => (compE n C k).bind fun f => (compE n C v).bind fun g => (compP n C ks vs).map fun r => (f, g) :: r
  | _, _, _, _ => none
/-- what is walked -/
def compI : Nat → Ctx → Expr → Expr → Option IM
  | 0, _, _, _ => none
  | n + 1, C, tg, e => match rangeOf C e with
    | some [a] => if notStar a then (compA n C [a]).map (iArg rng1) else none
    | some [a, b] => if notStar a && notStar b then (compA n C [a, b]).map (iArg rng2) else none
    | some _ => none
    | none => match zipOf C e with
      | some [a, b] => if isTupE tg && notStar a && notStar b then (compA n C [a, b]).map (iArg zipD) else none
      | some _ => none
      | none => if notSet e then (compE n C e).map iOf else none
/-- a comprehension of one clause -/
def compC : Nat → Ctx → Expr → Expr → Expr → List Expr → Scope → Option LM
  | 0, _, _, _, _, _, _ => none
  | n + 1, C, elt, tg, it, ifs, scope => if notSet it then (tgOwn C scope tg).bind fun (own : List (Str × Nat)) => if blkC C.N C.sc scope own then (compI n C tg it).bind fun i => (compG { C with sc := relS scope C.sc, bs := some scope } tg).bind fun t =>
      (match ifs with
        | [] => some mYes
        | [c] => compT n { C with sc := relS scope C.sc, bs := some scope } c
        | _ => none).bind fun tt => (compE n { C with sc := relS scope C.sc, bs := some scope } elt).map fun f => lComp i t (own.map Prod.snd) tt f
    else none else none
/-- of two clauses -/
def compC2 : Nat → Ctx → Expr → Expr → Expr → List Expr → Expr → Expr → List Expr → Scope → Option LM
  | 0, _, _, _, _, _, _, _, _, _ => none
  | n + 1, C, elt, tg, it, ifs, tg1, it1, ifs1, scope => if notSet it && notSet it1 && ifs.isEmpty && ifs1.isEmpty then (tgOwn C scope tg).bind fun (own : List (Str × Nat)) => (tgOwn C scope tg1).bind fun (own1 : List (Str × Nat)) =>
      if blkC C.N C.sc scope (own ++ own1) then (compI n C tg it).bind fun i => (compG { C with sc := relS scope C.sc, bs := some scope } tg).bind fun t => (compI n { C with sc := relS scope C.sc, bs := some scope } tg1 it1).bind fun i1 =>
        (compG { C with sc := relS scope C.sc, bs := some scope } tg1).bind fun t1 => if t1.slots.all (fun k => decide (k ∈ (own ++ own1).map Prod.snd)) then (compE n { C with sc := relS scope C.sc, bs := some scope } elt).map fun f => lComp2 i t ((own ++ own1).map Prod.snd) mYes i1 t1 mYes f else none
    else none else none
end

structure CompOk (p : Addr) (X : Cx) (R : RC) (elt tg iter : Expr) (ifs : List Expr) (scope : Scope) (F : LM) : Prop where
  ex : ∃ (it : IM) (t : Tg) (g : TG) (tt : TM) (f : XM) (own : List (Str × Nat)), F = lComp it t (own.map Prod.snd) tt f ∧ TgOk X.K p t g ∧ PI X tg iter (tII X.K p (it R)) ∧ BlkOk X.N X.env.scope scope own ∧
    (∀ (s : Shared) (H : Hp) (C : Addr) (cl : List (Str × Addr)) (fp : List Addr), PG (X.blk s H scope (compEnvC scope cl C X.env) fp) tg g) ∧ (∀ (s : Shared) (H : Hp) (C : Addr) (cl : List (Str × Addr)) (fp : List Addr), PTs (X.blk s H scope (compEnvC scope cl C X.env) fp) ifs (tTI X.K p (tt R))) ∧
    (∀ (s : Shared) (H : Hp) (C : Addr) (cl : List (Str × Addr)) (fp : List Addr), PE (X.blk s H scope (compEnvC scope cl C X.env) fp) elt (tI X.K p (f R))) ∧ ∀ x, foldedSetIterable iter X.env x = pure x
theorem PG.any {X : Cx} {tg : Expr} {g : TG} (h : PG X tg g) : PG X tg g := h

structure CompOk2 (p : Addr) (X : Cx) (R : RC) (elt tg iter tg1 iter1 : Expr) (scope : Scope) (F : LM) : Prop where
  ex : ∃ (it : IM) (t : Tg) (g : TG) (it1 : IM) (t1 : Tg) (g1 : TG) (f : XM) (own : List (Str × Nat)), F = lComp2 it t (own.map Prod.snd) mYes it1 t1 mYes f ∧ TgOk X.K p t g ∧ TgOk X.K p t1 g1 ∧ PI X tg iter (tII X.K p (it R)) ∧ BlkOk X.N X.env.scope scope own ∧ (∀ i ∈ t1.slots, i ∈ own.map Prod.snd) ∧
    (∀ (s : Shared) (H : Hp) (C : Addr) (cl : List (Str × Addr)) (fp : List Addr), PG (X.blk s H scope (compEnvC scope cl C X.env) fp) tg g) ∧ (∀ (s : Shared) (H : Hp) (C : Addr) (cl : List (Str × Addr)) (fp : List Addr), PI (X.blk s H scope (compEnvC scope cl C X.env) fp) tg1 iter1 (tII X.K p (it1 R))) ∧
    (∀ (s : Shared) (H : Hp) (C : Addr) (cl : List (Str × Addr)) (fp : List Addr), PG (X.blk s H scope (compEnvC scope cl C X.env) fp) tg1 g1) ∧
    (∀ (s : Shared) (H : Hp) (C : Addr) (cl : List (Str × Addr)) (fp : List Addr), PE (X.blk s H scope (compEnvC scope cl C X.env) fp) elt (tI X.K p (f R))) ∧ (∀ x, foldedSetIterable iter X.env x = pure x) ∧ ∀ env x, foldedSetIterable iter1 env x = pure x
structure Snd (p : Addr) (n : Nat) : Prop where
  E : ∀ (C : Ctx) (X : Cx) (R : RC), Mt p C X R → ∀ e f, compE n C e = some f → PE X e (tI X.K p (f R))
  B : ∀ (C : Ctx) (X : Cx) (R : RC), Mt p C X R → ∀ k es f, compB n C k es = some f → ∀ pos, PE X (.BoolOp (if k = true then .And else .Or) es pos) (tI X.K p (f R))
  T : ∀ (C : Ctx) (X : Cx) (R : RC), Mt p C X R → ∀ e f, compT n C e = some f → PT X e (tTI X.K p (f R))
  W : ∀ (C : Ctx) (X : Cx) (R : RC), Mt p C X R → ∀ k es f, compW n C k es = some f → ∀ pos, PW X (.BoolOp (if k = true then .And else .Or) es pos) (tTI X.K p (f R))
  A : ∀ (C : Ctx) (X : Cx) (R : RC), Mt p C X R → ∀ es f, compA n C es = some f → PA X es (tAI X.K p (f R)) ∧ ∀ env S r, f R env S = some r → r.1.length = es.length
  O : ∀ (C : Ctx) (X : Cx) (R : RC), Mt p C X R → ∀ o f, compO n C o = some f → PO X o (tOI X.K p (f R))
  P : ∀ (C : Ctx) (X : Cx) (R : RC), Mt p C X R → ∀ pos ks vs ts, compP n C ks vs = some ts → PPs X pos ks vs (ts.map fun t => (tI X.K p (t.1 R), tI X.K p (t.2 R)))
  I : ∀ (C : Ctx) (X : Cx) (R : RC), Mt p C X R → ∀ tg e f, compI n C tg e = some f → PI X tg e (tII X.K p (f R))
  C : ∀ (C : Ctx) (X : Cx) (R : RC), Mt p C X R → ∀ elt tg it ifs scope f, compC n C elt tg it ifs scope = some f → CompOk p X R elt tg it ifs scope f
  C2 : ∀ (C : Ctx) (X : Cx) (R : RC), Mt p C X R → ∀ elt tg it ifs tg1 it1 ifs1 scope f, compC2 n C elt tg it ifs tg1 it1 ifs1 scope = some f → ifs = [] ∧ ifs1 = [] ∧ CompOk2 p X R elt tg it tg1 it1 scope f

/-- the target's reading is by its places alone -/
def tgG (K : PySem.W.Frag) : Tg → TG
  | .name i => gName i
  | .tup is => gSeq K is.length (gAll is)
theorem tgG_ok {K : PySem.W.Frag} {p : Addr} {t : Tg} : TgOk K p t (tgG K t) := by
  cases t with
  | name i => exact tg_name
  | tup is => exact tg_tup
theorem compG_tgG {p : Addr} {C : Ctx} {X : Cx} {R : RC} (m : Mt p C X R) {tg : Expr} {t : Tg} (h : compG C tg = some t) : PG X tg (tgG X.K t) := by
  cases tg <;> simp only [compG] at h <;> first
    | cases h; done
    | skip
  · split at h
    · rename_i hl
      obtain ⟨i, ei, rfl⟩ := Option.map_eq_some_iff.mp h
      obtain ⟨l1, l2⟩ := m.loc hl
      exact pg_name m.hN (m.ix ei) l1 l2
    · cases h
  · obtain ⟨xs, ex, h⟩ := Option.bind_eq_some_iff.mp h
    split at h
    · rename_i hl
      obtain ⟨is, ei, rfl⟩ := Option.map_eq_some_iff.mp h
      obtain ⟨q1, q2, q3⟩ := compG_all m ex hl ei
      exact pg_seq m.calm q1 q2 q3
    · cases h
theorem compG_blk {p : Addr} {C : Ctx} {X : Cx} {R : RC} (m : Mt p C X R) {scope : Scope} {tg : Expr} {t : Tg} (h : compG { C with sc := relS scope C.sc, bs := some scope } tg = some t) :
    ∃ g, TgOk X.K p t g ∧ ∀ (s : Shared) (H : Hp) (L : Addr) (cl : List (Str × Addr)) (fp : List Addr), PG (X.blk s H scope (compEnvC scope cl L X.env) fp) tg g :=
  ⟨tgG X.K t, tgG_ok, fun s H L cl fp => compG_tgG (m.blk s H scope cl L fp) h⟩
theorem snd0 {p : Addr} : Snd p 0 where
  E := fun C X R m e f h => by simp only [compE] at h; cases h
  B := fun C X R m k e f h => by simp only [compB] at h; cases h
  T := fun C X R m e f h => by simp only [compT] at h; cases h
  W := fun C X R m k e f h => by simp only [compW] at h; cases h
  A := fun C X R m e f h => by simp only [compA] at h; cases h
  O := fun C X R m e f h => by simp only [compO] at h; cases h
  P := fun C X R m pos ks vs ts h => by simp only [compP] at h; cases h
  I := fun C X R m tg e f h => by simp only [compI] at h; cases h
  C := fun C X R m a b c d e f h => by simp only [compC] at h; cases h
  C2 := fun C X R m a b c d e f g k l h => by simp only [compC2] at h; cases h
section
variable {p : Addr} {n : Nat} {C : Ctx} {X : Cx} {R : RC}
theorem sndA (ih : Snd p n) (m : Mt p C X R) (es : List Expr) (f : AM) (h : compA (n + 1) C es = some f) : PA X es (tAI X.K p (f R)) ∧ ∀ env S r, f R env S = some r → r.1.length = es.length := by
  cases es with
  | nil =>
    simp only [compA] at h
    cases h
    exact ⟨ia_nil, fun env S r e => by cases e; rfl⟩
  | cons e es =>
    simp only [compA] at h
    split at h
    · rename_i hs
      obtain ⟨f1, e1, h⟩ := Option.bind_eq_some_iff.mp h
      obtain ⟨f2, e2, rfl⟩ := Option.map_eq_some_iff.mp h
      obtain ⟨q1, q2⟩ := ih.A C X R m es f2 e2
      refine ⟨ia_cons (ih.E C X R m e f1 e1) q1 (star_plain hs), fun env S r e => ?_⟩
      unfold aCons at e
      obtain ⟨x, ex, e⟩ := Option.bind_eq_some_iff.mp e
      obtain ⟨y, ey, rfl⟩ := Option.map_eq_some_iff.mp e
      show y.1.length + 1 = _
      rw [q2 _ _ _ ey]
      rfl
    · cases h
theorem sndO (ih : Snd p n) (m : Mt p C X R) (o : Option Expr) (f : OM) (h : compO (n + 1) C o = some f) : PO X o (tOI X.K p (f R)) := by
  cases o with
  | none =>
    simp only [compO] at h
    cases h
    exact io_none
  | some e =>
    simp only [compO] at h
    obtain ⟨f1, e1, rfl⟩ := Option.map_eq_some_iff.mp h
    exact io_some (ih.E C X R m e f1 e1)
theorem sndP (ih : Snd p n) (m : Mt p C X R) (pos : Pos) (ks : List (Option Expr)) (vs : List Expr) (ts : List (XM × XM)) (h : compP (n + 1) C ks vs = some ts) : PPs X pos ks vs (ts.map fun t => (tI X.K p (t.1 R), tI X.K p (t.2 R))) := by
  match ks, vs, h with
  | [], [], h =>
    simp only [compP] at h
    cases h
    exact pps_nil
  | some k :: ks, v :: vs, h =>
    simp only [compP] at h
    obtain ⟨f1, e1, h⟩ := Option.bind_eq_some_iff.mp h
    obtain ⟨f2, e2, h⟩ := Option.bind_eq_some_iff.mp h
    obtain ⟨r, er, rfl⟩ := Option.map_eq_some_iff.mp h
    exact pps_cons (ih.E C X R m k f1 e1) (ih.E C X R m v f2 e2) (ih.P C X R m pos ks vs r er)
  | none :: _, _, h => simp only [compP] at h; cases h
  | [], _ :: _, h => simp only [compP] at h; cases h
  | some _ :: _, [], h => simp only [compP] at h; cases h
theorem sndB (ih : Snd p n) (m : Mt p C X R) (k : Bool) (es : List Expr) (f : XM) (h : compB (n + 1) C k es = some f) (pos : Pos) : PE X (.BoolOp (if k = true then .And else .Or) es pos) (tI X.K p (f R)) := by
  match es, h with
  | [], h => simp only [compB] at h; cases h
  | [e], h =>
    simp only [compB] at h
    exact pe_one (ih.E C X R m e f h)
  | e :: e' :: es, h =>
    simp only [compB] at h
    obtain ⟨f1, e1, h⟩ := Option.bind_eq_some_iff.mp h
    obtain ⟨f2, e2, rfl⟩ := Option.map_eq_some_iff.mp h
    have q1 := ih.E C X R m e f1 e1
    have q2 := ih.B C X R m k (e' :: es) f2 e2 pos
    cases k with
    | true => exact ie_and q1 q2
    | false => exact ie_or q1 q2
theorem sndW (ih : Snd p n) (m : Mt p C X R) (k : Bool) (es : List Expr) (f : TM) (h : compW (n + 1) C k es = some f) (pos : Pos) : PW X (.BoolOp (if k = true then .And else .Or) es pos) (tTI X.K p (f R)) := by
  match es, h with
  | [], h => simp only [compW] at h; cases h
  | [e], h =>
    simp only [compW] at h
    have q := ih.T C X R m e f h
    cases k with
    | true => exact iw_and1 q
    | false => exact iw_or1 q
  | e :: e' :: es, h =>
    simp only [compW] at h
    obtain ⟨f1, e1, h⟩ := Option.bind_eq_some_iff.mp h
    obtain ⟨f2, e2, rfl⟩ := Option.map_eq_some_iff.mp h
    have q1 := ih.T C X R m e f1 e1
    have q2 := ih.W C X R m k (e' :: es) f2 e2 pos
    cases k with
    | true => exact iw_and q1 q2
    | false => exact iw_or q1 q2
theorem beh_of {op : CmpOp} {b : Expr} (h : notSet b = true) : behindInMarks op b = false := by cases b <;> first | rfl | cases h
theorem sndT (ih : Snd p n) (m : Mt p C X R) (e : Expr) (f : TM) (h : compT (n + 1) C e = some f) : PT X e (tTI X.K p (f R)) := by
  rw [compT.eq_def] at h
  split at h
  · cases h
  · rename_i a pos heq
    cases heq
    obtain ⟨f1, e1, rfl⟩ := Option.map_eq_some_iff.mp h
    exact it_not (ih.T _ X R m a f1 e1)
  · rename_i es pos heq
    cases heq
    exact (ih.W _ X R m true es f h pos).pt
  · rename_i es pos heq
    cases heq
    exact (ih.W _ X R m false es f h pos).pt
  · rename_i a op b pos heq
    cases heq
    split at h
    · rename_i hs
      obtain ⟨f1, e1, h⟩ := Option.bind_eq_some_iff.mp h
      obtain ⟨f2, e2, h⟩ := Option.bind_eq_some_iff.mp h
      obtain ⟨o, eo, rfl⟩ := Option.map_eq_some_iff.mp h
      obtain ⟨r, ho, hv⟩ := cmp_ok (X := X) (p := p) m.units eo
      exact it_bl (f := xBin o f1 f2) ((pt_cmpR ho (ih.E _ X R m a f1 e1) (ih.E _ X R m b f2 e2) (beh_of hs)).imp fun σ H Q q => bin_tI hv q)
    · cases h
  · rename_i a op op' b c pos heq
    cases heq
    split at h
    · rename_i hs
      obtain ⟨f1, e1, h⟩ := Option.bind_eq_some_iff.mp h
      obtain ⟨f2, e2, h⟩ := Option.bind_eq_some_iff.mp h
      obtain ⟨f3, e3, h⟩ := Option.bind_eq_some_iff.mp h
      obtain ⟨o, eo, h⟩ := Option.bind_eq_some_iff.mp h
      obtain ⟨o', eo', rfl⟩ := Option.map_eq_some_iff.mp h
      obtain ⟨r, ho, hv⟩ := cmp_ok (X := X) (p := p) m.units eo
      obtain ⟨r', ho', hv'⟩ := cmp_ok (X := X) (p := p) m.units eo'
      rw [Bool.and_eq_true] at hs
      exact it_bl (f := xChain o o' f1 f2 f3) ((pt_chain ho ho' (ih.E _ X R m a f1 e1) (ih.E _ X R m b f2 e2) (ih.E _ X R m c f3 e3) (show lastMarks [op, op'] [b, c] = false from beh_of hs.2)).imp fun σ H Q q => chain_tI hv hv' q)
    · cases h
  · rename_i g es ks pos heq
    cases heq
    obtain ⟨f1, e1, rfl⟩ := Option.map_eq_some_iff.mp h
    exact it_tru (ih.E _ X R m _ f1 e1) fun _ => rfl
  · rename_i x pos heq
    cases heq
    obtain ⟨f1, e1, rfl⟩ := Option.map_eq_some_iff.mp h
    exact it_tru (ih.E _ X R m _ f1 e1) fun _ => rfl
  · rename_i v i pos heq
    cases heq
    obtain ⟨f1, e1, rfl⟩ := Option.map_eq_some_iff.mp h
    exact it_tru (ih.E _ X R m _ f1 e1) fun _ => rfl
  · cases h
theorem sndI (ih : Snd p n) (m : Mt p C X R) (tg e : Expr) (f : IM) (h : compI (n + 1) C tg e = some f) : PI X tg e (tII X.K p (f R)) := by
  simp only [compI] at h
  split at h
  · rename_i a hr
    obtain ⟨q, pos, rfl, hb, hg⟩ := rangeOf_ok hr
    split at h
    · rename_i ha
      obtain ⟨f1, e1, rfl⟩ := Option.map_eq_some_iff.mp h
      exact ii_rng1 (m.gl hg) (m.bls _ hb) (ih.A _ X R m _ f1 e1).1 (star_plain ha)
    · cases h
  · rename_i a b hr
    obtain ⟨q, pos, rfl, hb, hg⟩ := rangeOf_ok hr
    split at h
    · rename_i ha
      rw [Bool.and_eq_true] at ha
      obtain ⟨f1, e1, rfl⟩ := Option.map_eq_some_iff.mp h
      exact ii_rng2 (m.gl hg) (m.bls _ hb) (ih.A _ X R m _ f1 e1).1 (by rw [star_plain ha.1, star_plain ha.2]; rfl) (star_plain ha.2)
    · cases h
  · cases h
  · split at h
    · rename_i a b hr
      obtain ⟨q, pos, rfl, hb, hg⟩ := zipOf_ok hr
      split at h
      · rename_i ha
        rw [Bool.and_eq_true, Bool.and_eq_true] at ha
        obtain ⟨f1, e1, rfl⟩ := Option.map_eq_some_iff.mp h
        cases tg <;> first
          | (cases ha.1.1; done)
          | skip
        exact ii_zip (m.gl hg) (m.bls _ hb) (ih.A _ X R m _ f1 e1).1 (star_plain ha.1.2) (by rw [star_plain ha.2]; rfl)
      · cases h
    · cases h
    · split at h
      · obtain ⟨f1, e1, rfl⟩ := Option.map_eq_some_iff.mp h
        exact ii_seq (ih.E _ X R m e f1 e1)
      · cases h
theorem sndC2 (ih : Snd p n) (m : Mt p C X R) (elt tg it : Expr) (ifs : List Expr) (tg1 it1 : Expr) (ifs1 : List Expr) (scope : Scope) (f : LM) (h : compC2 (n + 1) C elt tg it ifs tg1 it1 ifs1 scope = some f) : ifs = [] ∧ ifs1 = [] ∧ CompOk2 p X R elt tg it tg1 it1 scope f := by
  simp only [compC2] at h
  split at h
  · rename_i hs
    simp only [Bool.and_eq_true, List.isEmpty_iff] at hs
    obtain ⟨own, eo, h⟩ := Option.bind_eq_some_iff.mp h
    obtain ⟨own1, eo1, h⟩ := Option.bind_eq_some_iff.mp h
    split at h
    · rename_i hb
      obtain ⟨i, ei, h⟩ := Option.bind_eq_some_iff.mp h
      obtain ⟨t, et, h⟩ := Option.bind_eq_some_iff.mp h
      obtain ⟨i1, ei1, h⟩ := Option.bind_eq_some_iff.mp h
      obtain ⟨t1, et1, h⟩ := Option.bind_eq_some_iff.mp h
      split at h
      · rename_i hsl
        obtain ⟨f1, e1, rfl⟩ := Option.map_eq_some_iff.mp h
        obtain ⟨g, tk, pg⟩ := compG_blk (p := p) m et
        obtain ⟨g1, tk1, pg1⟩ := compG_blk (p := p) m et1
        exact ⟨hs.1.2, hs.2, i, t, g, i1, t1, g1, f1, own ++ own1, rfl, tk, tk1, ih.I _ X R m tg it i ei, blkOk_by (by rw [m.N, m.sc]; exact hb), fun k hk => of_decide_eq_true (List.all_eq_true.mp hsl k hk), pg, fun s H L cl fp => ih.I _ _ R (m.blk s H scope cl L fp) tg1 it1 i1 ei1, pg1,
          fun s H L cl fp => ih.E _ _ R (m.blk s H scope cl L fp) elt f1 e1, folded_of hs.1.1.1, fun env => folded_of hs.1.1.2⟩
      · cases h
    · cases h
  · cases h
theorem sndC (ih : Snd p n) (m : Mt p C X R) (elt tg it : Expr) (ifs : List Expr) (scope : Scope) (f : LM) (h : compC (n + 1) C elt tg it ifs scope = some f) : CompOk p X R elt tg it ifs scope f := by
  simp only [compC] at h
  split at h
  · rename_i hs
    obtain ⟨own, eo, h⟩ := Option.bind_eq_some_iff.mp h
    split at h
    · rename_i hb
      obtain ⟨i, ei, h⟩ := Option.bind_eq_some_iff.mp h
      obtain ⟨t, et, h⟩ := Option.bind_eq_some_iff.mp h
      obtain ⟨tt, ett, h⟩ := Option.bind_eq_some_iff.mp h
      obtain ⟨f1, e1, rfl⟩ := Option.map_eq_some_iff.mp h
      have hg : ∃ g, TgOk X.K p t g ∧ ∀ (s : Shared) (H : Hp) (C : Addr) (cl : List (Str × Addr)) (fp : List Addr), PG (X.blk s H scope (compEnvC scope cl C X.env) fp) tg g := compG_blk m et
      obtain ⟨g, tk, pg⟩ := hg
      refine ⟨i, t, g, tt, f1, own, rfl, tk, ih.I _ X R m tg it i ei, blkOk_by (by rw [m.N, m.sc]; exact hb), pg, fun s H L cl fp => ?_, fun s H L cl fp => ih.E _ _ R (m.blk s H scope cl L fp) elt f1 e1, folded_of hs⟩
      cases ifs with
      | nil =>
        cases ett
        exact its_nil
      | cons c r =>
        cases r with
        | nil => exact its_one (ih.T _ _ R (m.blk s H scope cl L fp) c tt ett)
        | cons _ _ => cases ett
    · cases h
  · cases h
theorem ie_comp {f : LM} {elt tg it : Expr} {ifs : List Expr} {scope : Scope} (m : Mt p C X R) (h : CompOk p X R elt tg it ifs scope f) (pos : Pos) : PE X (.ListComp elt [⟨tg, it, ifs, 0⟩] scope pos) (tLI X.K p (f R)) := by
  obtain ⟨i, t, g, tt, f1, own, rfl, tk, pi, ok, hg, ht, he, hs⟩ := h.ex
  exact il_comp tk m.calm m.hN pi ok hg ht he hs
theorem ie_comp2 {f : LM} {elt tg it tg1 it1 : Expr} {scope : Scope} (m : Mt p C X R) (h : CompOk2 p X R elt tg it tg1 it1 scope f) (pos : Pos) : PE X (.ListComp elt [⟨tg, it, [], 0⟩, ⟨tg1, it1, [], 0⟩] scope pos) (tLI X.K p (f R)) := by
  obtain ⟨i, t, g, i1, t1, g1, f1, own, rfl, tk, tk1, pi, ok, hv, hg, pi1, hg1, he, hs, hs1⟩ := h.ex
  exact (pe_lc2 m.calm m.hN pi ok hv hg (fun _ _ _ _ _ => its_nil) pi1 hg1 (fun _ _ _ _ _ => its_nil) he hs hs1).imp fun σ H Q q => comp_tLc2 tk tk1 q
theorem lenOwn_ok {f : Str} {es : List Expr} {i : Nat} (h : lenOwn C f es = some i) : f = ("len" : Str) ∧ f ∈ C.bls ∧ ∃ x q, es = [.Name x q] ∧ plainN x = true ∧ visB C.sc x = true ∧ findIx C.N x = some i := by
  unfold lenOwn at h
  split at h
  · rename_i hf
    split at h
    · split at h
      · rename_i hx
        exact ⟨hf.1, hf.2, _, _, rfl, hx.2.1, hx.2.2, h⟩
      · cases h
    · cases h
  · cases h
theorem ie_lenO {i : Nat} {x : Str} {q pf pos : Pos} (hg : Gl X "len") (hm : X.mg "len" = none) (hx : PE X (.Name x q) (tVar i)) : PE X (.Call (.Name "len" pf) [.Name x q] [] pos) (tI X.K p (xLenO i R)) :=
  (pe_callB call_len hg hm PySem.boot_len (pa_cons hx pa_nil (by rfl)) (by decide) (by decide) (by rfl) (by rfl)).imp fun σ H Q q => by
    obtain ⟨env, S, B0, oa, f0, w, e1, k⟩ := q
    unfold xLenO at e1
    split at e1
    · rename_i xs hxs
      cases e1
      obtain ⟨a, vs, ha, hσ, hH, rs⟩ := own_lst f0 hxs
      exact ⟨.ref a, hσ, _, _, rfl, .inl ⟨_, .inl (.inl hH), rfl⟩, by rw [rs.length]; exact k _ H f0 (Keep.refl p H) (.int _)⟩
    · rename_i d hd
      obtain ⟨r, er, rfl⟩ := Option.map_eq_some_iff.mp e1
      obtain ⟨v, hσ, rv⟩ := f0.sh i d hd
      exact ⟨v, hσ, vra_len _ H [v] [d] r _ f0.mut (Reps.one rv) er fun z H' s' r' => k z H' (f0.same s') (Keep.of s') r'⟩
    · cases e1
theorem metIn_ok : ∀ {as : List (Str × Str × Nat)} {m : Str} {r : Str × Nat}, metIn as m = some r → (m, r) ∈ as
  | [], _, _, h => by cases h
  | a :: as, m, r, h => by
    unfold metIn at h
    split at h
    · rename_i e
      cases h
      rw [← e]
      exact List.mem_cons_self
    · exact List.mem_cons_of_mem _ (metIn_ok h)
theorem metOf_ok : ∀ {cs : List ClsI} {m : Str} {c : ClsI} {r : Str × Nat}, metOf cs m = some (c, r) → c ∈ cs ∧ (m, r) ∈ c.meths
  | [], _, _, _, h => by cases h
  | c :: cs, m, c', r, h => by
    unfold metOf at h
    split at h
    · rename_i r' hr
      cases h
      exact ⟨List.mem_cons_self, metIn_ok hr⟩
    · obtain ⟨h1, h2⟩ := metOf_ok h
      exact ⟨List.mem_cons_of_mem _ h1, h2⟩
theorem plain_dbg {x : Str} (h : plainN x = true) : (x == ("__debug__" : Str)) = false ∧ (x == ("__classdict__" : Str)) = false := by
  unfold plainN at h
  rw [Bool.and_eq_true] at h
  exact ⟨by simpa using h.1, by simpa using h.2⟩
theorem sndE (k0 : Nat) (ih : ∀ n', k0 = n' + 1 → Snd p n') (m : Mt p C X R) (e : Expr) (f : XM) (h : compE k0 C e = some f) : PE X e (tI X.K p (f R)) := by
  rw [compE.eq_def] at h
  split at h
  · cases h
  · cases h; exact ie_c pe_int fun _ _ => .int _
  · cases h; exact ie_c pe_bl fun _ _ => .bl _
  · cases h; exact ie_c pe_non fun _ _ => .non
  · cases h; exact ie_c pe_str fun _ _ => .str _
  · rename_i x pos
    split at h
    · rename_i hp
      obtain ⟨d1, d2⟩ := plain_dbg hp
      split at h
      · rename_i hv
        obtain ⟨i, ei, rfl⟩ := Option.map_eq_some_iff.mp h
        exact ie_var (pe_var (m.ix ei) (m.vis hv) d1 d2)
      · split at h
        · rename_i hg
          split at h
          · rename_i d hd
            cases h
            obtain ⟨u, v, hm, r, rp⟩ := m.cs _ d hd
            exact ie_c (pe_glob (m.gl hg) hm r d1) rp
          · split at h
            · rename_i hb
              obtain ⟨t, et, rfl⟩ := Option.map_eq_some_iff.mp h
              obtain ⟨n1, n2⟩ := ty_ok et
              exact ie_c (pe_bltn (v := .ty t) (m.gl hg) (m.bls _ hb) n2 rfl n1 d1) fun _ _ => .ty t
            · cases h
        · cases h
    · cases h
  · rename_i a op b pos
    obtain ⟨f1, e1, h⟩ := Option.bind_eq_some_iff.mp h
    obtain ⟨f2, e2, h⟩ := Option.bind_eq_some_iff.mp h
    obtain ⟨o, eo, rfl⟩ := Option.map_eq_some_iff.mp h
    obtain ⟨r, ho, hv⟩ := bin_ok (X := X) (p := p) eo
    exact ie_bin ho hv ((ih _ rfl).E _ X R m a f1 e1) ((ih _ rfl).E _ X R m b f2 e2)
  · rename_i a pos
    obtain ⟨f1, e1, rfl⟩ := Option.map_eq_some_iff.mp h
    exact ie_not ((ih _ rfl).E _ X R m a f1 e1)
  · rename_i a pos
    obtain ⟨f1, e1, rfl⟩ := Option.map_eq_some_iff.mp h
    exact ie_un un_neg vr_neg ((ih _ rfl).E _ X R m a f1 e1)
  · rename_i es pos
    exact (ih _ rfl).B _ X R m true es f h pos
  · rename_i es pos
    exact (ih _ rfl).B _ X R m false es f h pos
  · rename_i c a b pos
    obtain ⟨f1, e1, h⟩ := Option.bind_eq_some_iff.mp h
    obtain ⟨f2, e2, h⟩ := Option.bind_eq_some_iff.mp h
    obtain ⟨f3, e3, rfl⟩ := Option.map_eq_some_iff.mp h
    exact ie_if ((ih _ rfl).T _ X R m c f1 e1) ((ih _ rfl).E _ X R m a f2 e2) ((ih _ rfl).E _ X R m b f3 e3)
  · rename_i a op b pos
    split at h
    · rename_i hs
      obtain ⟨f1, e1, h⟩ := Option.bind_eq_some_iff.mp h
      obtain ⟨f2, e2, h⟩ := Option.bind_eq_some_iff.mp h
      obtain ⟨o, eo, rfl⟩ := Option.map_eq_some_iff.mp h
      obtain ⟨r, ho, hv⟩ := cmp_ok (X := X) (p := p) m.units eo
      exact ie_cmp ho hv ((ih _ rfl).E _ X R m a f1 e1) ((ih _ rfl).E _ X R m b f2 e2) (beh_of hs)
    · cases h
  · rename_i a op op' b c pos
    split at h
    · rename_i hs
      obtain ⟨f1, e1, h⟩ := Option.bind_eq_some_iff.mp h
      obtain ⟨f2, e2, h⟩ := Option.bind_eq_some_iff.mp h
      obtain ⟨f3, e3, h⟩ := Option.bind_eq_some_iff.mp h
      obtain ⟨o, eo, h⟩ := Option.bind_eq_some_iff.mp h
      obtain ⟨o', eo', rfl⟩ := Option.map_eq_some_iff.mp h
      obtain ⟨r, ho, hv⟩ := cmp_ok (X := X) (p := p) m.units eo
      obtain ⟨r', ho', hv'⟩ := cmp_ok (X := X) (p := p) m.units eo'
      rw [Bool.and_eq_true] at hs
      exact (pe_chain ho ho' ((ih _ rfl).E _ X R m a f1 e1) ((ih _ rfl).E _ X R m b f2 e2) ((ih _ rfl).E _ X R m c f3 e3) (show lastMarks [op, op'] [b, c] = false from beh_of hs.2)).imp fun σ H Q q => chain_tI hv hv' q
    · cases h
  · rename_i es k pos
    obtain ⟨f1, e1, rfl⟩ := Option.map_eq_some_iff.mp h
    exact ie_tup ((ih _ rfl).A _ X R m es f1 e1).1
  · rename_i es pos
    obtain ⟨f1, e1, rfl⟩ := Option.map_eq_some_iff.mp h
    exact ie_lst (il_disp ((ih _ rfl).A _ X R m es f1 e1).1)
  · rename_i elt tg it ifs scope pos
    obtain ⟨f1, e1, rfl⟩ := Option.map_eq_some_iff.mp h
    exact ie_lst (ie_comp m ((ih _ rfl).C _ X R m elt tg it ifs scope f1 e1) pos)
  · rename_i elt tg it ifs tg1 it1 ifs1 scope pos
    obtain ⟨f1, e1, rfl⟩ := Option.map_eq_some_iff.mp h
    obtain ⟨rfl, rfl, q⟩ := (ih _ rfl).C2 _ X R m elt tg it ifs tg1 it1 ifs1 scope f1 e1
    exact ie_lst (ie_comp2 m q pos)
  · cases h
    exact pe_dnewK.imp fun σ H Q q => by
      obtain ⟨env, S, B0, oa, f0, w, e1, k⟩ := q
      cases e1
      exact fun a ha => k _ _ (f0.same (same_new ha)) (Keep.of (same_new ha)) (Rep.dic (kvs := []) upd_same (f0.new ha) List.nodup_nil .nil)
  · rename_i k mm v pos
    obtain ⟨f1, e1, h⟩ := Option.bind_eq_some_iff.mp h
    obtain ⟨f2, e2, h⟩ := Option.bind_eq_some_iff.mp h
    obtain ⟨f3, e3, rfl⟩ := Option.map_eq_some_iff.mp h
    exact ie_star ((ih _ rfl).E _ X R m _ f1 e1) ((ih _ rfl).E _ X R m _ f2 e2) ((ih _ rfl).E _ X R m _ f3 e3)
  · rename_i k ks vs pos _
    split at h
    · rename_i hc
      simp only [Bool.and_eq_true, decide_eq_true_eq] at hc
      obtain ⟨⟨h1, h2⟩, h3⟩ := hc
      obtain ⟨ts, et, rfl⟩ := Option.map_eq_some_iff.mp h
      exact ie_dict ((ih _ rfl).P _ X R m pos _ _ ts et) h1 h2 (fun z => nomatch z) h3
    · cases h
  · rename_i o f pos
    split at h
    · rename_i hb
      obtain ⟨c, ec, h⟩ := Option.bind_eq_some_iff.mp h
      obtain ⟨g, eg, rfl⟩ := Option.map_eq_some_iff.mp h
      have hc := List.mem_of_find?_eq_some ec
      have hf := List.find?_some ec
      obtain ⟨Ca, n1, n2, n3, _⟩ := m.cls c hc
      exact ie_fld n1 n2 (n3 f (of_decide_eq_true hf)) ((ih _ rfl).E _ X R m o g eg) (base_of hb)
    · cases h
  · rename_i o mm ap e es cp
    split at h
    · rename_i hc
      simp only [Bool.and_eq_true, decide_eq_true_eq] at hc
      obtain ⟨⟨⟨h1, h2⟩, h3⟩, h4⟩ := hc
      obtain ⟨f1, e1, h⟩ := Option.bind_eq_some_iff.mp h
      obtain ⟨f2, e2, h⟩ := Option.bind_eq_some_iff.mp h
      have hs := h3
      rw [List.all_cons, Bool.and_eq_true] at hs
      split at h
      · rename_i c key nn hm
        split at h
        · rename_i hn
          simp only [Bool.and_eq_true, decide_eq_true_eq] at hn
          obtain ⟨hn1, hn2⟩ := hn
          cases h
          obtain ⟨hcm, hmm⟩ := metOf_ok hm
          obtain ⟨Ca, n1, n2, _, n4, _⟩ := m.cls c hcm
          obtain ⟨k, fm, fd, ps, q1, q2, q3, q4⟩ := n4 _ hmm
          obtain ⟨qa, qb⟩ := (ih _ rfl).A _ X R m _ f2 e2
          cases o <;> first
            | (cases hn1; done)
            | skip
          exact ie_met n1 n2 q1 q2 q3 q4 ((ih _ rfl).E _ X R m _ f1 e1) qa (fun env S r e => by rw [qb env S r e]; exact hn2.symm) (star_plain hs.1) (star_any hs.2) ⟨base_of h1, h2, few_of h3 h4⟩
        · cases h
      · cases h
        exact ie_mth m.units ((ih _ rfl).E _ X R m o f1 e1) ((ih _ rfl).A _ X R m _ f2 e2).1 (base_of h1) (few_of h3 h4) h2 (star_plain hs.1) (star_any hs.2)
    · cases h
  · obtain ⟨f1, e1, rfl⟩ := Option.map_eq_some_iff.mp h
    exact ie_rev ((ih _ rfl).E _ X R m _ f1 e1)
  · obtain ⟨f1, e1, h⟩ := Option.bind_eq_some_iff.mp h
    obtain ⟨f2, e2, h⟩ := Option.bind_eq_some_iff.mp h
    obtain ⟨f3, e3, rfl⟩ := Option.map_eq_some_iff.mp h
    exact ie_sli ((ih _ rfl).E _ X R m _ f1 e1) ((ih _ rfl).O _ X R m _ f2 e2) ((ih _ rfl).O _ X R m _ f3 e3)
  · split at h
    · rename_i hs
      obtain ⟨f1, e1, h⟩ := Option.bind_eq_some_iff.mp h
      obtain ⟨f2, e2, rfl⟩ := Option.map_eq_some_iff.mp h
      exact ie_xix ((ih _ rfl).E _ X R m _ f1 e1) ((ih _ rfl).E _ X R m _ f2 e2) (plainIx_of hs)
    · cases h
  · rename_i x q pos
    split at h
    · rename_i hc
      rw [Bool.and_eq_true] at hc
      split at h
      · rename_i hl
        cases h
        obtain ⟨k, fa, fd, ps, F, hr, hm, hk, hb⟩ := m.fns _ _ hl
        exact ie_call0 F hr (m.gl hc.1) hm hk hb (plain_dbg hc.2).1
      · cases h
    · cases h
  · rename_i x q e es pos
    split at h
    · rename_i hc
      rw [Bool.and_eq_true, Bool.and_eq_true] at hc
      have hs := hc.2
      rw [List.all_cons, Bool.and_eq_true] at hs
      split at h
      · rename_i i hi
        cases h
        obtain ⟨rfl, hb, y, q', ey, py, vy, fy⟩ := lenOwn_ok hi
        rw [ey]
        exact ie_lenO (m.gl hc.1.1) (m.bls _ hb) (pe_var (m.ix fy) (m.vis vy) (plain_dbg py).1 (plain_dbg py).2)
      · obtain ⟨f1, e1, h⟩ := Option.bind_eq_some_iff.mp h
        obtain ⟨q1, q2⟩ := (ih _ rfl).A _ X R m _ f1 e1
        split at h
        · rename_i mm hl
          split at h
          · rename_i hm'
            cases h
            obtain ⟨k, fa, fd, ps, F, hr, hm, hk, hb⟩ := m.fns _ _ hl
            exact ie_call F hr (m.gl hc.1.1) hm hk hb (fun env S r e => by rw [q2 env S r e]; exact hm'.symm) q1 (plain_dbg hc.1.2).1 (star_plain hs.1) (star_any hs.2)
          · cases h
        · split at h
          · rename_i c hcl
            cases h
            have hc1 := List.mem_of_find?_eq_some hcl
            have hc2 : c.name = x := of_decide_eq_true (List.find?_some (p := fun c : ClsI => decide (c.name = x)) hcl)
            subst hc2
            obtain ⟨Ca, n1, _, _, _, n5, fi, fd, ps, M, F, hb⟩ := m.cls c hc1
            exact ie_new n1 M F (m.room.mono (by decide)) (m.gl hc.1.1) n5 hb q1 (plain_dbg hc.1.2).1 (star_plain hs.1) (star_any hs.2)
          · split at h
            · rename_i hb
              obtain ⟨g, eg, rfl⟩ := Option.map_eq_some_iff.mp h
              obtain ⟨n1, hh⟩ := blt_ok (X := X) (p := p) m.calm m.units eg
              rcases hh with ⟨id, r, b1, b2, b3⟩ | ⟨T, r, b1, b2, b3⟩
              · exact ie_callB b2 b3 (m.gl hc.1.1) (m.bls _ hb) b1 q1 n1 (plain_dbg hc.1.2).1 (star_plain hs.1) (star_any hs.2)
              · exact ie_callTy b2 b3 (m.gl hc.1.1) (m.bls _ hb) b1 q1 n1 (plain_dbg hc.1.2).1 (star_plain hs.1) (star_any hs.2)
            · cases h
    · cases h
  · cases h
end
theorem snd {p : Addr} : ∀ n, Snd p n
  | 0 => snd0
  | n + 1 => by
    have ih := @snd p n
    exact ⟨fun C X R m => sndE _ (fun n' hn => by cases hn; exact ih) m, fun C X R m => sndB ih m, fun C X R m => sndT ih m, fun C X R m => sndW ih m, fun C X R m => sndA ih m, fun C X R m => sndO ih m, fun C X R m => sndP ih m, fun C X R m => sndI ih m, fun C X R m => sndC ih m, fun C X R m => sndC2 ih m⟩
end Ip

set_option maxHeartbeats 4000000
/-! IpI: statements compiled. -/
namespace Ip
open PySem L2

def blockFn (C : Ctx) : Bool := decide (C.sc.kind = .function)
section
variable {p : Addr} {C : Ctx} {X : Cx} {R : RC} {pos : Pos}
theorem Mt.block (m : Mt p C X R) (h : blockFn C = true) : X.env.blockKind = .function := by
  have h := of_decide_eq_true h
  unfold PySem.Env.blockKind
  rw [m.sc, h]
  rfl
theorem sw_comp {elt : Expr} {gs : List Comprehension} {scope : Scope} {cp py : Pos} {t : Str} {l : Nat} {env : Env} :
    swapsWith (.ListComp elt gs scope cp) (some (.Name t py)) l env = pure (env.blockKind == .function && env.kindOf t == some .local && py.line == cp.line && !(scope.names.any fun (n, k) => n == t && (k == .local || k == .cell))) := rfl
theorem is_setC (m : Mt p C X R) {i : Nat} {y : Str} {py spos cp : Pos} {F : LM} {elt tg iter : Expr} {ifs : List Expr} {scope : Scope} (hi : findIx C.N y = some i) (hl : locB C y = true) (h : CompOk p X R elt tg iter ifs scope F) :
    PS X (.Assign [.Name y py] (.ListComp elt [⟨tg, iter, ifs, 0⟩] scope cp) spos) (tIS X.K p (sAsg (.name i) (xLst F) R)) := by
  obtain ⟨l1, l2⟩ := m.loc hl
  cases hb : (X.env.blockKind == .function && X.env.kindOf y == some .local && py.line == cp.line && !(scope.names.any fun (n, k) => n == y && (k == .local || k == .cell))) with
  | false => exact is_set m.hN (m.ix hi) l1 (ie_lst (ie_comp m h cp)) (by rw [sw_comp, hb]) l2
  | true =>
    obtain ⟨it, t, g, tt, f1, own, rfl, tk, pi, ok, hg, ht, he, hs⟩ := h.ex
    have hyl : X.env.scope.names.lookup y = some .local := by
      simp only [Bool.and_eq_true, beq_iff_eq] at hb
      exact hb.1.1.2
    exact (ps_setLc m.calm m.hN (m.ix hi) hyl (by rw [sw_comp, hb]) pi ok hg ht he hs).imp fun Dn σ H q => comp_tLc tk (lst_tLI (asg_I tg_name q))
theorem is_setC2 (m : Mt p C X R) {i : Nat} {y : Str} {py spos cp : Pos} {F : LM} {elt tg iter tg1 iter1 : Expr} {scope : Scope} (hi : findIx C.N y = some i) (hl : locB C y = true) (h : CompOk2 p X R elt tg iter tg1 iter1 scope F) :
    PS X (.Assign [.Name y py] (.ListComp elt [⟨tg, iter, [], 0⟩, ⟨tg1, iter1, [], 0⟩] scope cp) spos) (tIS X.K p (sAsg (.name i) (xLst F) R)) := by
  obtain ⟨l1, l2⟩ := m.loc hl
  cases hb : (X.env.blockKind == .function && X.env.kindOf y == some .local && py.line == cp.line && !(scope.names.any fun (n, k) => n == y && (k == .local || k == .cell))) with
  | false => exact is_set m.hN (m.ix hi) l1 (ie_lst (ie_comp2 m h cp)) (by rw [sw_comp, hb]) l2
  | true =>
    obtain ⟨it, t, g, it1, t1, g1, f1, own, rfl, tk, tk1, pi, ok, hv, hg, pi1, hg1, he, hs, hs1⟩ := h.ex
    have hyl : X.env.scope.names.lookup y = some .local := by
      simp only [Bool.and_eq_true, beq_iff_eq] at hb
      exact hb.1.1.2
    exact (ps_setLc2 m.calm m.hN (m.ix hi) hyl (by rw [sw_comp, hb]) pi ok hv hg (fun _ _ _ _ _ => its_nil) pi1 hg1 (fun _ _ _ _ _ => its_nil) he hs hs1).imp fun Dn σ H q => comp_tLc2 tk tk1 (lst_tLI (asg_I tg_name q))
/-- two names at once: the conditions -/
def par2B (C : Ctx) (x y : Str) (px py : Pos) (a b : Expr) : Bool := blockFn C && decide (C.sc.names.lookup x = some .local) && decide (C.sc.names.lookup y = some .local) && (py.line == px.line) && decide (x ≠ y) && notStar a && notStar b && !(foldedForSure 8 a && foldedForSure 8 b) && !(constantsAlone 8 a && constantsAlone 8 b)
def par3B (C : Ctx) (x y z : Str) (px py pz : Pos) (a b c : Expr) : Bool := blockFn C && decide (C.sc.names.lookup x = some .local) && decide (C.sc.names.lookup y = some .local) && decide (C.sc.names.lookup z = some .local) && (py.line == px.line) && (pz.line == px.line) && decide (x ≠ y) && decide (x ≠ z) && decide (y ≠ z) &&
  notStar a && notStar b && notStar c && !(foldedForSure 8 a && (foldedForSure 8 b && foldedForSure 8 c)) && !(constantsAlone 8 a && (constantsAlone 8 b && constantsAlone 8 c))
theorem par2_ok (m : Mt p C X R) {x y : Str} {px py pt pt2 : Pos} {kt k2 : Nat} {a b : Expr} (h : par2B C x y px py a b = true) : swappedStores [.Tuple [.Name x px, .Name y py] kt pt] (.Tuple [a, b] k2 pt2) X.env = pure (some [x, y]) := by
  unfold par2B at h
  simp only [Bool.and_eq_true, decide_eq_true_eq, Bool.not_eq_true', beq_iff_eq] at h
  obtain ⟨⟨⟨⟨⟨⟨⟨⟨h1, h2⟩, h3⟩, h4⟩, h5⟩, h6⟩, h7⟩, h8⟩, h9⟩ := h
  have kx : X.env.kindOf x = some .local := by
    show X.env.scope.names.lookup x = _
    rw [m.sc]; exact h2
  have ky : X.env.kindOf y = some .local := by
    show X.env.scope.names.lookup y = _
    rw [m.sc]; exact h3
  have hb := m.block h1
  unfold swappedStores
  have e5 : (y == x) = false := by simpa using Ne.symm h5
  simp [hb, kx, ky, h4, h5, h8, h9, Expr.pos, List.eraseDups_cons, e5]
  intro h
  rcases h with h | h
  · cases a <;> first | cases h; done | cases h6
  · cases b <;> first | cases h; done | cases h7
theorem par3_ok (m : Mt p C X R) {x y z : Str} {px py pz pt pt2 : Pos} {kt k2 : Nat} {a b c : Expr} (h : par3B C x y z px py pz a b c = true) : swappedStores [.Tuple [.Name x px, .Name y py, .Name z pz] kt pt] (.Tuple [a, b, c] k2 pt2) X.env = pure (some [x, y, z]) := by
  unfold par3B at h
  simp only [Bool.and_eq_true, decide_eq_true_eq, Bool.not_eq_true', beq_iff_eq] at h
  obtain ⟨⟨⟨⟨⟨⟨⟨⟨⟨⟨⟨⟨⟨h1, h2⟩, h3⟩, h3z⟩, h4⟩, h4z⟩, h5⟩, h5b⟩, h5c⟩, h6⟩, h7⟩, h7c⟩, h8⟩, h9⟩ := h
  have kx : X.env.kindOf x = some .local := by
    show X.env.scope.names.lookup x = _
    rw [m.sc]; exact h2
  have ky : X.env.kindOf y = some .local := by
    show X.env.scope.names.lookup y = _
    rw [m.sc]; exact h3
  have kz : X.env.kindOf z = some .local := by
    show X.env.scope.names.lookup z = _
    rw [m.sc]; exact h3z
  have hb := m.block h1
  unfold swappedStores
  have e5 : (y == x) = false := by simpa using Ne.symm h5
  have e5b : (z == x) = false := by simpa using Ne.symm h5b
  have e5c : (z == y) = false := by simpa using Ne.symm h5c
  simp [hb, kx, ky, kz, h4, h4z, h5, h8, h9, Expr.pos, List.eraseDups_cons, e5, e5b, e5c]
  intro h
  rcases h with h | h | h
  · cases a <;> first | cases h; done | cases h6
  · cases b <;> first | cases h; done | cases h7
  · cases c <;> first | cases h; done | cases h7c
theorem fm2 {α β : Type} {g : α → Option β} {u v : α} (h : g v = none) : ([u, v].filterMap g).length ≠ 2 := by
  rw [List.filterMap_cons, List.filterMap_cons, h]
  cases g u <;> simp
/-- two names that are not both plain locals: a tuple is built and taken apart -/
def par2N (C : Ctx) (x y : Str) (a b : Expr) : Bool := !(decide (C.sc.names.lookup x = some .local) && decide (C.sc.names.lookup y = some .local)) && notStar a && notStar b
theorem par2_no (m : Mt p C X R) {x y : Str} {px py pt pt2 : Pos} {kt k2 : Nat} {a b : Expr} (h : par2N C x y a b = true) : swappedStores [.Tuple [.Name x px, .Name y py] kt pt] (.Tuple [a, b] k2 pt2) X.env = pure none := by
  unfold par2N at h
  simp only [Bool.and_eq_true, Bool.not_eq_true', Bool.and_eq_false_iff, decide_eq_false_iff_not] at h
  obtain ⟨⟨h1, h2⟩, h3⟩ := h
  have k : ∀ u, X.env.kindOf u = C.sc.names.lookup u := fun u => by
    show X.env.scope.names.lookup u = _
    rw [m.sc]
  have k2 : (X.env.kindOf x == some .local) = false ∨ (X.env.kindOf y == some .local) = false := by
    rw [k, k]
    rcases h1 with h | h
    · exact .inl (beq_eq_false_iff_ne.mpr h)
    · exact .inr (beq_eq_false_iff_ne.mpr h)
  have s1 : ([a, b].any fun e => match e with | .Starred _ _ => true | _ => false) = false := by
    cases a <;> first | (cases h2; done) | (cases b <;> first | (cases h3; done) | rfl)
  unfold swappedStores
  by_cases hk : (X.env.blockKind != .function) = true
  · simp [hk]
  · rcases k2 with q | q
    · simp [hk, q] <;> (try split) <;> (try rfl) <;> simp_all
      intro _ h
      exfalso
      exact absurd h (Nat.ne_of_lt (Nat.lt_of_le_of_lt (List.length_filterMap_le _ _) (Nat.lt_succ_self 1)))
    · simp [hk, q] <;> (try split) <;> (try rfl) <;> simp_all
      intro _ h
      exact absurd h (fm2 (by simp [q]))
/-- constants alone: a tuple is built and taken apart -/
theorem par_fold {ts : List Expr} {kt k2 : Nat} {pt pt2 : Pos} {vs : List Expr} (h : vs.all (foldedForSure 8) = true) : swappedStores [.Tuple ts kt pt] (.Tuple vs k2 pt2) X.env = pure none := by
  unfold swappedStores
  simp only [h, if_true]
  split
  · rfl
  · split
    · rfl
    · split <;> rfl
theorem sw_sole {t e : Expr} {l : Nat} {env : Env} (h : notName t = true) : swapsWithSole [t] e l env = pure false := sw_tgt h
def notTup : Expr → Bool
  | .Tuple _ _ _ => false
  | _ => true
theorem swst_of {t e : Expr} {env : Env} (h : notTup e = true) : swappedStores [t] e env = pure none := by
  cases e <;> first | cases h; done | (cases t <;> rfl)
theorem swst_tgt {t e : Expr} {env : Env} (h : ∀ es k q, t ≠ .Tuple es k q) (h2 : ∀ es q, t ≠ .List es q) : swappedStores [t] e env = pure none := by
  cases t <;> first | exact absurd rfl (h _ _ _) | exact absurd rfl (h2 _ _) | (cases e <;> rfl)

/-! ### three names at once, data alone -/
def sPar3 (i j l : Nat) (f g h : XM) : SM := fun R env S => (f R env S).bind fun x => (g R env x.2).bind fun y => (h R env y.2).bind fun z =>
  some (.nx, ((env.set i (some (.sh x.1))).set j (some (.sh y.1))).set l (some (.sh z.1)), z.2)
theorem is_par3 {i j l : Nat} {x y z : Str} {a b c : Expr} {px py pz pt : Pos} {kt k2 pt2} {f g h : XM} (m : Mt p C X R) (hi : findIx C.N x = some i) (hj : findIx C.N y = some j) (hl : findIx C.N z = some l) (hc : par3B C x y z px py pz a b c = true)
    (ha : PE X a (tI X.K p (f R))) (hb : PE X b (tI X.K p (g R))) (hc' : PE X c (tI X.K p (h R))) :
    PS X (.Assign [.Tuple [.Name x px, .Name y py, .Name z pz] kt pt] (.Tuple [a, b, c] k2 pt2) pos) (tIS X.K p (sPar3 i j l f g h R)) := by
  have hw := par3_ok (kt := kt) (k2 := k2) (pt := pt) (pt2 := pt2) m hc
  unfold par3B at hc
  simp only [Bool.and_eq_true, decide_eq_true_eq] at hc
  obtain ⟨⟨⟨⟨⟨⟨⟨⟨⟨⟨⟨⟨⟨h1, h2⟩, h3⟩, h3z⟩, h4⟩, h4z⟩, h5⟩, h5b⟩, h5c⟩, h6⟩, h7⟩, h7c⟩, h8⟩, h9⟩ := hc
  have ne : ∀ {u v : Str} {i j : Nat}, u ≠ v → findIx C.N u = some i → findIx C.N v = some j → i ≠ j := fun {u v i j} h e1 e2 z => by
    subst z
    have q := (findIx_get e1).symm.trans (findIx_get e2)
    exact h (Option.some.inj q)
  have lx : ∀ u, C.sc.names.lookup u = some .local → X.env.scope.names.lookup u = some .local := fun u h => by rw [m.sc]; exact h
  refine (ps_par3 m.calm m.hN (m.ix hi) (m.ix hj) (m.ix hl) (ne h5 hi hj) (ne h5b hi hl) (ne h5c hj hl) (lx x h2) (lx y h3) (lx z h3z) (pa_cons ha (pa_cons hb (pa_cons hc' pa_nil (star_plain h7c)) (star_plain h7)) (star_plain h6)) hw (sw_sole rfl)).imp fun Dn σ H q => ?_
  obtain ⟨env, S, B0, oa, f0, w, e1, k⟩ := q
  unfold sPar3 at e1
  obtain ⟨x1, ex, e1⟩ := Option.bind_eq_some_iff.mp e1
  obtain ⟨y1, ey, e1⟩ := Option.bind_eq_some_iff.mp e1
  obtain ⟨z1, ez, e1⟩ := Option.bind_eq_some_iff.mp e1
  cases e1
  refine ⟨env, S, B0, oa, f0, x1, ex, fun v H1 f1 k1 r1 => ⟨env, _, B0, oa, f1, y1, ey, fun u H2 f2 k2 r2 => ⟨env, _, B0, oa, f2, z1, ez, fun t H3 f3 k3 r3 => ⟨v, u, t, rfl, ?_⟩⟩⟩⟩
  have k13 := (k1.trans k2).trans k3
  have q1 := r1.keep f1 (k2.trans k3)
  have q2 := r2.keep f2 k3
  have g1 := f3.set i q1
  have g2 := g1.set j (q2.less fun b => bf_drop)
  have g3 := g2.set l (r3.less fun b h => bf_drop (bf_drop h))
  exact k _ H3 _ g3 ((((k13.mv f3.pool.some).trans (Mv.drop i)).trans (Mv.drop j)).trans (Mv.drop l))

/-! ### name += e -/
def sAug (i : Nat) (o : D → D → Option D) (f : XM) : SM := fun R env S => match env[i]? with
  | some (some (.sh d)) => (f R env S).bind fun x => (o d x.1).map fun r => (.nx, env.set i (some (.sh r)), x.2)
  | _ => none
def augI : Operator → Option (Int → Int → Int)
  | .Add => some fun i j => i + j
  | .Sub => some fun i j => i - j
  | _ => none
theorem aug_ok {op : Operator} {g : Int → Int → Int} (h : augI op = some g) : PIp X op (ipI g) := by
  cases op <;> simp only [augI] at h <;> first
    | cases h; done
    | skip
  · cases h; exact ip_add
  · cases h; exact ip_sub
theorem is_aug {i : Nat} {x : Str} {op : Operator} {g : Int → Int → Int} {e : Expr} {f : XM} {pos' : Pos} (m : Mt p C X R) (hi : findIx C.N x = some i) (hl : locB C x = true) (ho : augI op = some g) (h : PE X e (tI X.K p (f R))) :
    PS X (.AugAssign (.Name x pos') op e pos) (tIS X.K p (sAug i (intD fun a b => some (g a b)) f R)) := by
  obtain ⟨l1, l2⟩ := m.loc hl
  refine (ps_aug m.hN (m.ix hi) l1 h (aug_ok ho) l2).imp fun Dn σ H q => ?_
  obtain ⟨env, S, B0, oa, f0, w, e1, k⟩ := q
  unfold sAug at e1
  split at e1
  · rename_i d hd
    obtain ⟨x1, ex, e1⟩ := Option.bind_eq_some_iff.mp e1
    obtain ⟨r, er, rfl⟩ := Option.map_eq_some_iff.mp e1
    obtain ⟨v, ev, rv⟩ := f0.sh i d hd
    refine ⟨v, ev, env, S, B0, oa, f0, x1, ex, fun u H1 f1 k1 r1 => ?_⟩
    have rv1 := rv.keep f0 k1
    generalize x1.1 = dx at r1 er
    cases rv1 <;> cases r1 <;> simp only [intD] at er <;> first
      | cases er; done
      | skip
    cases er
    exact ⟨_, _, rfl, rfl, k _ H1 _ (f1.set i (.int _)) ((k1.mv f1.pool.some).trans (Mv.drop i))⟩
  · cases e1
/-! ### lists and dicts of one's own -/
def lApp (g : List D → Option (List D)) (fa : AM) : LM := fun R env S => (fa R env S).bind fun x => (g x.1).map fun es => (es, x.2)
theorem app_tLI {r : List V → Hp → VK → Prop} {g : List D → Option (List D)} {fa : AM} {R : RC} {K : PySem.W.Frag} (hg : VLA K p r g) {σ : L2.St} {H : Hp} {Q : VK} (q : tLI K p (lApp g fa R) σ H Q) : tAI K p (fa R) σ H fun xs H1 => r xs H1 Q := by
  obtain ⟨env, S, B0, oa, f, w, e1, k⟩ := q
  unfold lApp at e1
  obtain ⟨x, ex, e1⟩ := Option.bind_eq_some_iff.mp e1
  obtain ⟨es, ed, rfl⟩ := Option.map_eq_some_iff.mp e1
  refine ⟨env, S, B0, oa, f, x, ex, fun vs H1 f1 k1 r1 => ?_⟩
  refine hg _ H1 vs _ es Q f1.mut r1 ed fun a ws H2 s2 hn ha r2 => k a ws H2 (f1.shunS hn s2 ⟨_, ha, trivial⟩) (k1.trans (Keep.of s2)) ?_ ha (r2.less fun b h => ?_)
  · cases hq : H a with
    | none => rfl
    | some o =>
      by_cases hp : a = p
      · subst hp
        exact absurd hn f1.pool.some
      · rw [k1 a o hp hq] at hn
        cases hn
  · rcases h with (h | h) | h
    · exact .inl (.inl h)
    · exact .inr h
    · exact .inl (.inr h)
def lAdd (fa fb : XM) : LM := fun R env S => (fa R env S).bind fun x => (fb R env x.2).bind fun y => match x.1, y.1 with
  | .lst xs, .lst ys => if xs.length + ys.length ≤ sizeLine then some (xs ++ ys, y.2) else none
  | _, _ => none
theorem add_tLI {fa fb : XM} {R : RC} {K : PySem.W.Frag} {σ : L2.St} {H : Hp} {Q : VK} (q : tLI K p (lAdd fa fb R) σ H Q) : tI K p (fa R) σ H fun x H1 => tI K p (fb R) σ H1 fun y H2 => rCat x y H2 Q := by
  obtain ⟨env, S, B0, oa, f, w, e1, k⟩ := q
  unfold lAdd at e1
  obtain ⟨x, ex, e1⟩ := Option.bind_eq_some_iff.mp e1
  obtain ⟨y, ey, e1⟩ := Option.bind_eq_some_iff.mp e1
  refine ⟨env, S, B0, oa, f, x, ex, fun v H1 f1 k1 r1 => ⟨env, _, B0, oa, f1, y, ey, fun u H2 f2 k2 r2 => ?_⟩⟩
  have r1' := r1.keep f1 k2
  split at e1
  · rename_i xs ys h1 h2
    split at e1
    · rename_i hl
      cases e1
      rw [h1] at r1'
      rw [h2] at r2
      cases r1' with
      | lst l1 n1 q1 =>
        cases r2 with
        | lst l2 n2 q2 =>
          refine ⟨_, _, _, _, rfl, rfl, l1, l2, by rw [q1.length, q2.length]; exact hl, fun a ha => ?_⟩
          have hb : ∀ b, Bf (fun b => B0 b ∨ b = a) p oa b → Bf B0 p oa b ∨ H2 b = none := fun b h => by
            rcases h with (h | h) | h | h
            · exact .inl (.inl h)
            · exact .inr (h ▸ ha)
            · exact .inl (.inr (.inl h))
            · exact .inl (.inr (.inr h))
          refine k a _ _ (f2.shun ha trivial) ((k1.trans k2).trans (Keep.of (same_new ha))) ?_ upd_same ((q1.append q2).move (fun b o _ z => same_new ha b o z) hb f2.mut)
          cases hq : H a with
          | none => rfl
          | some o =>
            by_cases hp : a = p
            · subst hp
              exact absurd ha f2.pool.some
            · rw [(k1.trans k2) a o hp hq] at ha
              cases ha
    · cases e1
  · cases e1
/-- a new dict -/
def vDic (g : List D → Option (List Key × List D)) (fa : AM) : RM := fun R env S => (fa R env S).bind fun x => (g x.1).map fun e => (.ownD e.1 e.2, x.2)
theorem dic_tVI {r : List V → Hp → VK → Prop} {g : List D → Option (List Key × List D)} {fa : AM} {R : RC} {K : PySem.W.Frag} (hg : VDA K p r g) {σ : L2.St} {H : Hp} {Q : VK} (q : tVI K p (vDic g fa R) σ H Q) : tAI K p (fa R) σ H fun xs H1 => r xs H1 Q := by
  obtain ⟨env, S, B0, oa, f, w, e1, k⟩ := q
  unfold vDic at e1
  obtain ⟨x, ex, e1⟩ := Option.bind_eq_some_iff.mp e1
  obtain ⟨es, ed, rfl⟩ := Option.map_eq_some_iff.mp e1
  refine ⟨env, S, B0, oa, f, x, ex, fun vs H1 f1 k1 r1 => ?_⟩
  refine hg _ H1 vs _ es Q f1.mut r1 ed fun a kvs H2 s2 hn ha ek nd r2 => k _ H2 ?_
  have nb := f1.new hn
  have hH : H a = none := by
    cases hq : H a with
    | none => rfl
    | some o =>
      by_cases hp : a = p
      · subst hp
        exact absurd hn f1.pool.some
      · rw [k1 a o hp hq] at hn
        cases hn
  refine .own (f1.shunS hn s2 ⟨_, ha, trivial⟩) (k1.trans (Keep.of s2)) hH ?_ (fun z => nb (.inl z)) (fun z => nb (.inr (.inl z))) (fun j z => nb (.inr (.inr ⟨j, z⟩))) fun d z => nomatch z
  show OwnAt K p _ H2 a (.ownD es.1 es.2)
  rw [← ek]
  refine .ownD ha nd (r2.less fun b h => ?_)
  rcases h with (h | h) | h
  · exact .inl (.inl h)
  · exact .inr h
  · exact .inl (.inr h)
def vNewD : RM := fun _ _ S => some (.ownD [] [], S)
theorem new_tVI {R : RC} {K : PySem.W.Frag} {σ : L2.St} {H : Hp} {Q : VK} (q : tVI K p (vNewD R) σ H Q) : tDNewK σ H Q := by
  obtain ⟨env, S, B0, oa, f, w, e1, k⟩ := q
  cases e1
  intro a ha
  have nb := f.new ha
  refine k _ _ (.own (f.shun ha trivial) (Keep.of (same_new ha)) ha ?_ (fun z => nb (.inl z)) (fun z => nb (.inr (.inl z))) (fun j z => nb (.inr (.inr ⟨j, z⟩))) fun d z => nomatch z)
  exact OwnAt.ownD (kvs := []) upd_same List.nodup_nil .nil
def compV (n : Nat) (C : Ctx) : Expr → Option RM
  | .List es _ => (compA n C es).map fun f => vOwn (lDisp f)
  | .Dict [] [] _ => some vNewD
  | .BinOp a .Add b _ => (compE n C a).bind fun f => (compE n C b).map fun g => vOwn (lAdd f g)
  | .Call (.Name x _) [e] [] _ => if x ∈ C.bls ∧ glB C.sc x = true ∧ plainN x = true ∧ notStar e = true then
      if x = ("list" : Str) then (compA n C [e]).map fun f => vOwn (lApp listX f)
      else if x = ("dict" : Str) then (compA n C [e]).map fun f => vDic dictL f
      else none
    else none
  | _ => none
theorem sndV (m : Mt p C X R) (n : Nat) (e : Expr) (f : RM) (h : compV n C e = some f) : PE X e (tVI X.K p (f R)) := by
  unfold compV at h
  split at h
  · obtain ⟨f1, e1, rfl⟩ := Option.map_eq_some_iff.mp h
    exact iv_own (il_disp ((snd n).A _ X R m _ f1 e1).1)
  · cases h
    exact pe_dnewK.imp fun σ H Q q => new_tVI q
  · obtain ⟨f1, e1, h⟩ := Option.bind_eq_some_iff.mp h
    obtain ⟨f2, e2, rfl⟩ := Option.map_eq_some_iff.mp h
    exact iv_own ((pe_op op_cat ((snd n).E _ X R m _ f1 e1) ((snd n).E _ X R m _ f2 e2)).imp fun σ H Q q => add_tLI q)
  · rename_i x q e pos
    split at h
    · rename_i hc
      obtain ⟨h1, h2, h3, h4⟩ := hc
      split at h
      · rename_i hx
        subst hx
        obtain ⟨f1, e1, rfl⟩ := Option.map_eq_some_iff.mp h
        exact iv_own ((pe_callTy (call_list_of.or (call_listR m.calm)) (m.gl h2) (m.bls _ h1) (by decide +kernel) ((snd n).A _ X R m _ f1 e1).1 (by decide) (plain_dbg h3).1 (star_plain h4) (by rfl)).imp fun σ H Q q => app_tLI (vla_list.or vla_listR) q)
      · split at h
        · rename_i hx
          subst hx
          obtain ⟨f1, e1, rfl⟩ := Option.map_eq_some_iff.mp h
          exact (pe_callTy (call_dictX m.calm) (m.gl h2) (m.bls _ h1) (by decide +kernel) ((snd n).A _ X R m _ f1 e1).1 (by decide) (plain_dbg h3).1 (star_plain h4) (by rfl)).imp fun σ H Q q => dic_tVI vda_dict q
        · cases h
    · cases h
  · cases h
/-- an own name takes what is its own, else data -/
def compR (n : Nat) (C : Ctx) (x : Str) (e : Expr) : Option RM := if x ∈ C.own then (match compV n C e with
    | some f => some f
    | none => (compE n C e).map vSh) else (compE n C e).map vSh
theorem sndR (m : Mt p C X R) (n : Nat) (x : Str) (e : Expr) (f : RM) (h : compR n C x e = some f) : PE X e (tVI X.K p (f R)) := by
  unfold compR at h
  split at h
  · split at h
    · rename_i g hg
      rw [← Option.some.inj h]
      exact sndV m n e _ hg
    · obtain ⟨f1, e1, rfl⟩ := Option.map_eq_some_iff.mp h
      exact iv_sh ((snd n).E _ X R m e f1 e1)
  · obtain ⟨f1, e1, rfl⟩ := Option.map_eq_some_iff.mp h
    exact iv_sh ((snd n).E _ X R m e f1 e1)
/-- a value that may write an own list -/
def compXO (n : Nat) (C : Ctx) : Expr → Option XO
  | .Call (.Attribute (.Name x _) m ap) [e] [] cp => if m = ("pop" : Str) ∧ x ∈ C.own then
      if plainN x && visB C.sc x && (ap.endLine == cp.line) && notStar e then (findIx C.N x).bind fun i => (compE n C e).map fun f => xPopAt i f else none
    else (compE n C (.Call (.Attribute (.Name x ap) m ap) [e] [] cp)).bind fun _ => none
  | .Call (.Attribute (.Name x _) m ap) [] [] cp => if m = ("pop" : Str) ∧ x ∈ C.own then
      if plainN x && visB C.sc x && (ap.endLine == cp.line) then (findIx C.N x).map fun i => xPop i else none
    else none
  | _ => none
theorem sndXO (m : Mt p C X R) (n : Nat) (e : Expr) (f : XO) (h : compXO n C e = some f) : PE X e (tXO X.K p (f R)) := by
  unfold compXO at h
  split at h
  · rename_i x q mm ap e cp
    split at h
    · rename_i hc
      obtain ⟨rfl, ho⟩ := hc
      split at h
      · rename_i hc
        simp only [Bool.and_eq_true] at hc
        obtain ⟨⟨⟨h1, h2⟩, h3⟩, h4⟩ := hc
        obtain ⟨i, ei, h⟩ := Option.bind_eq_some_iff.mp h
        obtain ⟨f1, e1, rfl⟩ := Option.map_eq_some_iff.mp h
        exact io_popAt (pe_var (m.ix ei) (m.vis h2) (plain_dbg h1).1 (plain_dbg h1).2) ((snd n).E _ X R m e f1 e1) ⟨base_of (by rfl), h3, few_of (by simp [h4]) (by simp)⟩ (star_plain h4)
      · cases h
    · obtain ⟨_, _, h⟩ := Option.bind_eq_some_iff.mp h
      cases h
  · rename_i x q mm ap cp
    split at h
    · rename_i hc
      obtain ⟨rfl, ho⟩ := hc
      split at h
      · rename_i hc
        simp only [Bool.and_eq_true] at hc
        obtain ⟨⟨h1, h2⟩, h3⟩ := hc
        obtain ⟨i, ei, rfl⟩ := Option.map_eq_some_iff.mp h
        exact io_pop (pe_var (m.ix ei) (m.vis h2) (plain_dbg h1).1 (plain_dbg h1).2) ⟨base_of (by rfl), h3, few_of (by rfl) (by simp)⟩
      · cases h
    · cases h
  · cases h
def compXA (n : Nat) (C : Ctx) (e : Expr) : Option XO := match compXO n C e with
  | some f => some f
  | none => (compE n C e).map xoOf
theorem sndXA (m : Mt p C X R) (n : Nat) (e : Expr) (f : XO) (h : compXA n C e = some f) : PE X e (tXO X.K p (f R)) := by
  unfold compXA at h
  split at h
  · rename_i g hg
    rw [← Option.some.inj h]
    exact sndXO m n e _ hg
  · obtain ⟨f1, e1, rfl⟩ := Option.map_eq_some_iff.mp h
    exact io_of ((snd n).E _ X R m e f1 e1)
/-- statements that write an own list or dict -/
def compO1 (n : Nat) (C : Ctx) : Stmt → Option SM
  | .Expr (.Call (.Attribute (.Name x _) m ap) [e] [] cp) _ => if m = ("append" : Str) ∧ x ∈ C.own ∧ plainN x = true ∧ visB C.sc x = true ∧ (ap.endLine == cp.line) = true ∧ notStar e = true then
      (findIx C.N x).bind fun i => (compXA n C e).map fun f => sApp i f
    else if m = ("extend" : Str) ∧ x ∈ C.own ∧ plainN x = true ∧ visB C.sc x = true ∧ (ap.endLine == cp.line) = true ∧ notStar e = true then
      (findIx C.N x).bind fun i => (compE n C e).map fun f => sExt i f
    else none
  | .Expr e _ => if notComp e then (compE n C e).map sDrop else none
  | .Assign [.Name x _] e _ => if x ∈ C.own ∧ locB C x = true ∧ notComp e = true then (findIx C.N x).bind fun i => (compV n C e).map fun f => sPut i f
      else if locB C x && notComp e then (compXO n C e).bind fun f => (findIx C.N x).map fun i => sAsgO (.name i) f else none
  | .Assign [.Tuple ts k q] e _ => if notTup e then (compXO n C e).bind fun f => (compG C (.Tuple ts k q)).map fun t => sAsgO t f else none
  | .Assign [.Subscript (.Name x _) i _] e _ => if x ∈ C.own ∧ plainN x = true ∧ visB C.sc x = true ∧ notComp e = true then (findIx C.N x).bind fun j => (compE n C i).bind fun g => (compE n C e).map fun h => sKey j g h else none
  | _ => none
theorem sndO1 (m : Mt p C X R) (n : Nat) (st : Stmt) (f : SM) (h : compO1 n C st = some f) : PS X st (tIS X.K p (f R)) := by
  unfold compO1 at h
  split at h
  · rename_i x q mm ap e cp pos
    split at h
    · rename_i hc
      obtain ⟨rfl, ho, h1, h2, h3, h4⟩ := hc
      obtain ⟨i, ei, h⟩ := Option.bind_eq_some_iff.mp h
      obtain ⟨f1, e1, rfl⟩ := Option.map_eq_some_iff.mp h
      exact is_app (pe_var (m.ix ei) (m.vis h2) (plain_dbg h1).1 (plain_dbg h1).2) (sndXA m n e f1 e1) ⟨base_of (by rfl), h3, few_of (by simp [h4]) (by simp)⟩ (star_plain h4)
    · split at h
      · rename_i hc
        obtain ⟨rfl, ho, h1, h2, h3, h4⟩ := hc
        obtain ⟨i, ei, h⟩ := Option.bind_eq_some_iff.mp h
        obtain ⟨f1, e1, rfl⟩ := Option.map_eq_some_iff.mp h
        exact is_ext (pe_var (m.ix ei) (m.vis h2) (plain_dbg h1).1 (plain_dbg h1).2) ((snd n).E _ X R m e f1 e1) ⟨base_of (by rfl), h3, few_of (by simp [h4]) (by simp)⟩ (star_plain h4)
      · cases h
  · split at h
    · rename_i hn
      obtain ⟨f1, e1, rfl⟩ := Option.map_eq_some_iff.mp h
      exact is_drop ((snd n).E _ X R m _ f1 e1) (sw_of hn)
    · cases h
  · rename_i x q e pos
    split at h
    · rename_i hc
      obtain ⟨i, ei, h⟩ := Option.bind_eq_some_iff.mp h
      obtain ⟨f1, e1, rfl⟩ := Option.map_eq_some_iff.mp h
      obtain ⟨l1, l2⟩ := m.loc hc.2.1
      exact is_put m.hN (m.ix ei) l1 (sndV m n e f1 e1) (sw_of hc.2.2) l2
    · split at h
      · rename_i hc
        rw [Bool.and_eq_true] at hc
        obtain ⟨f1, e1, h⟩ := Option.bind_eq_some_iff.mp h
        obtain ⟨i, ei, rfl⟩ := Option.map_eq_some_iff.mp h
        obtain ⟨l1, l2⟩ := m.loc hc.1
        exact (ps_set m.hN (m.ix ei) l1 (sndXO m n e f1 e1) (sw_of hc.2) l2).imp fun Dn σ H q => asgO_I tg_name q
      · cases h
  · rename_i ts k q e pos
    split at h
    · rename_i hn
      obtain ⟨f1, e1, h⟩ := Option.bind_eq_some_iff.mp h
      obtain ⟨t, et, rfl⟩ := Option.map_eq_some_iff.mp h
      exact is_asgO tgG_ok (sndXO m n e f1 e1) (compG_tgG m et) (sw_sole rfl) (swst_of hn) rfl
    · cases h
  · rename_i x q i q2 e pos
    split at h
    · rename_i hc
      obtain ⟨j, ej, h⟩ := Option.bind_eq_some_iff.mp h
      obtain ⟨f1, e1, h⟩ := Option.bind_eq_some_iff.mp h
      obtain ⟨f2, e2, rfl⟩ := Option.map_eq_some_iff.mp h
      exact is_key m.units (pe_var (m.ix ej) (m.vis hc.2.2.1) (plain_dbg hc.2.1).1 (plain_dbg hc.2.1).2) ((snd n).E _ X R m i f1 e1) ((snd n).E _ X R m e f2 e2) (sw_of hc.2.2.2)
    · cases h
  · cases h
end

/-! ### statements -/
/-- what is read as data from a statement on: a hint of the table -/
def frzF (C : Ctx) (s : Stmt) (f : SM) : SM := match C.frz.lookup s.pos.line with
  | some is => sFrz is f
  | none => f
theorem is_frzF {p : Addr} {C : Ctx} {X : Cx} {R : RC} {s : Stmt} {f : SM} (h : PS X s (tIS X.K p (f R))) : PS X s (tIS X.K p (frzF C s f R)) := by
  unfold frzF
  cases C.frz.lookup s.pos.line with
  | some is => exact is_frz h
  | none => exact h
mutual
def compS : Nat → Ctx → Stmt → Option SM
  | 0, _, _ => none
  | n + 1, C, .Return (some e) _ => (compE n C e).map sRet
  | n + 1, C, .Assign [.Name x _] e _ => if locB C x then (findIx C.N x).bind fun i => match e with
      | .ListComp elt [⟨tg, it, ifs, 0⟩] scope _ => (compC n C elt tg it ifs scope).map fun f => sAsg (.name i) (xLst f)
      | .ListComp elt [⟨tg, it, ifs, 0⟩, ⟨tg1, it1, ifs1, 0⟩] scope _ => (compC2 n C elt tg it ifs tg1 it1 ifs1 scope).map fun f => sAsg (.name i) (xLst f)
      | e => if notComp e then (compE n C e).map (sAsg (.name i)) else none
    else none
  | n + 1, C, .Assign [.Tuple [.Name x px, .Name y py, .Name z pz] kt q] (.Tuple [a, b, c] k2 q2) _ => if par3B C x y z px py pz a b c then
      (findIx C.N x).bind fun i => (findIx C.N y).bind fun j => (findIx C.N z).bind fun l => (compE n C a).bind fun f => (compE n C b).bind fun g => (compE n C c).map fun h => sPar3 i j l f g h
    else if [a, b, c].all (foldedForSure 8) then (compG C (.Tuple [.Name x px, .Name y py, .Name z pz] kt q)).bind fun t => (compE n C (.Tuple [a, b, c] k2 q2)).map (sAsg t)
    else none
  | n + 1, C, .Assign [.Tuple [.Name x px, .Name y py] kt q] (.Tuple [a, b] k2 q2) _ => if par2B C x y px py a b then
      (findIx C.N x).bind fun i => (findIx C.N y).bind fun j => (compR n C x a).bind fun f => (compR n C y b).map fun g => sPar i j f g
    else if par2N C x y a b || [a, b].all (foldedForSure 8) then (compG C (.Tuple [.Name x px, .Name y py] kt q)).bind fun t => (compE n C (.Tuple [a, b] k2 q2)).map (sAsg t)
    else none
  | n + 1, C, .Assign [.Tuple ts k q] e _ => if notTup e then (compG C (.Tuple ts k q)).bind fun t => (compE n C e).map (sAsg t) else none
  | n + 1, C, .Assign [.Subscript o i _] e _ => if notSlice i then (compE n C o).bind fun f => (compE n C i).bind fun g => (compE n C e).map fun h => sPool f g h else none
  | n + 1, C, .AugAssign (.Name x _) op e _ => if locB C x then (findIx C.N x).bind fun i => (augI op).bind fun g => (compE n C e).map (sAug i (intD fun a b => some (g a b))) else none
  | n + 1, C, .If c a b _ => (compT n C c).bind fun t => (compSs n C a).bind fun f => (compSs n C b).map fun g => sIf t f g
  | n + 1, C, .For tg it body [] _ => if notSet it then (compI n C tg it).bind fun i => (compG C tg).bind fun t => (compSs n C body).map fun f => sFor i t f else none
  | n + 1, C, .While c body [] _ => (compT n C c).bind fun t => (compSs n C body).map fun f => sWhile 1000000 t f
  | n + 1, C, .Pass _ => some sNil
  | n + 1, C, .Break _ => some sBk
  | n + 1, C, .Continue _ => some sCt
  | _, _, _ => none
def compSs : Nat → Ctx → List Stmt → Option SM
  | 0, _, _ => none
  | n + 1, C, [] => some sNil
  | n + 1, C, s :: ss => ((compO1 n C s).orElse fun _ => compS n C s).bind fun f => (compSs n C ss).map fun g => sSeq (frzF C s f) g
end

structure SndS (p : Addr) (n : Nat) : Prop where
  S : ∀ (C : Ctx) (X : Cx) (R : RC), Mt p C X R → ∀ st f, compS n C st = some f → PS X st (tIS X.K p (f R))
  Ss : ∀ (C : Ctx) (X : Cx) (R : RC), Mt p C X R → ∀ sts f, compSs n C sts = some f → PSs X sts (tIS X.K p (f R))
theorem sndS0 {p : Addr} : SndS p 0 where
  S := fun C X R m st f h => by simp only [compS] at h; cases h
  Ss := fun C X R m st f h => by simp only [compSs] at h; cases h
section
variable {p : Addr} {n : Nat} {C : Ctx} {X : Cx} {R : RC}
theorem Mt.own (m : Mt p C X R) : PassesOwn (model X.prog X.w) X.A X.env X.xe := by
  rw [m.xe]
  exact PassesOwn.never
theorem sndSs (ih : SndS p n) (m : Mt p C X R) (sts : List Stmt) (f : SM) (h : compSs (n + 1) C sts = some f) : PSs X sts (tIS X.K p (f R)) := by
  cases sts with
  | nil =>
    simp only [compSs] at h
    cases h
    exact is_nil
  | cons st sts =>
    simp only [compSs] at h
    obtain ⟨f1, e1, h⟩ := Option.bind_eq_some_iff.mp h
    obtain ⟨f2, e2, rfl⟩ := Option.map_eq_some_iff.mp h
    refine is_cons (is_frzF ?_) (ih.Ss C X R m sts f2 e2)
    cases eo : compO1 n C st with
    | some g =>
      rw [eo] at e1
      cases e1
      exact sndO1 m n st _ eo
    | none =>
      rw [eo] at e1
      exact ih.S C X R m st f1 e1
theorem sndS_ (k0 : Nat) (ih : ∀ n', k0 = n' + 1 → SndS p n') (m : Mt p C X R) (st : Stmt) (f : SM) (h : compS k0 C st = some f) : PS X st (tIS X.K p (f R)) := by
  rw [compS.eq_def] at h
  split at h
  · cases h
  · rename_i e pos
    obtain ⟨f1, e1, rfl⟩ := Option.map_eq_some_iff.mp h
    exact is_ret ((snd _).E _ X R m e f1 e1)
  · rename_i x px e pos
    split at h
    · rename_i hl
      obtain ⟨i, ei, h⟩ := Option.bind_eq_some_iff.mp h
      split at h
      · rename_i elt tg it ifs scope cp _
        obtain ⟨f1, e1, rfl⟩ := Option.map_eq_some_iff.mp h
        exact is_setC m ei hl ((snd _).C _ X R m elt tg it ifs scope f1 e1)
      · rename_i elt tg it ifs tg1 it1 ifs1 scope cp _
        obtain ⟨f1, e1, rfl⟩ := Option.map_eq_some_iff.mp h
        obtain ⟨rfl, rfl, q⟩ := (snd _).C2 _ X R m elt tg it ifs tg1 it1 ifs1 scope f1 e1
        exact is_setC2 m ei hl q
      · split at h
        · rename_i hn
          obtain ⟨f1, e1, rfl⟩ := Option.map_eq_some_iff.mp h
          obtain ⟨l1, l2⟩ := m.loc hl
          exact is_set m.hN (m.ix ei) l1 ((snd _).E _ X R m _ f1 e1) (sw_of hn) l2
        · cases h
    · cases h
  · rename_i x px y py z pz kt q a b c k2 q2 pos
    split at h
    · rename_i hc
      obtain ⟨i, ei, h⟩ := Option.bind_eq_some_iff.mp h
      obtain ⟨j, ej, h⟩ := Option.bind_eq_some_iff.mp h
      obtain ⟨l, el, h⟩ := Option.bind_eq_some_iff.mp h
      obtain ⟨f1, e1, h⟩ := Option.bind_eq_some_iff.mp h
      obtain ⟨f2, e2, h⟩ := Option.bind_eq_some_iff.mp h
      obtain ⟨f3, e3, rfl⟩ := Option.map_eq_some_iff.mp h
      exact is_par3 m ei ej el hc ((snd _).E _ X R m a f1 e1) ((snd _).E _ X R m b f2 e2) ((snd _).E _ X R m c f3 e3)
    · split at h
      · rename_i hn
        obtain ⟨t, et, h⟩ := Option.bind_eq_some_iff.mp h
        obtain ⟨f1, e1, rfl⟩ := Option.map_eq_some_iff.mp h
        exact is_asg tgG_ok ((snd _).E _ X R m _ f1 e1) (compG_tgG m et) (sw_sole rfl) (par_fold hn) rfl
      · cases h
  · rename_i x px y py kt q a b k2 q2 pos
    split at h
    · rename_i hc
      obtain ⟨i, ei, h⟩ := Option.bind_eq_some_iff.mp h
      obtain ⟨j, ej, h⟩ := Option.bind_eq_some_iff.mp h
      obtain ⟨f1, e1, h⟩ := Option.bind_eq_some_iff.mp h
      obtain ⟨f2, e2, rfl⟩ := Option.map_eq_some_iff.mp h
      have hw := par2_ok (kt := kt) (k2 := k2) (pt := q) (pt2 := q2) m hc
      unfold par2B at hc
      simp only [Bool.and_eq_true, decide_eq_true_eq] at hc
      obtain ⟨⟨⟨⟨⟨⟨⟨⟨h1, h2⟩, h3⟩, h4⟩, h5⟩, h6⟩, h7⟩, h8⟩, h9⟩ := hc
      have ne : i ≠ j := fun z => by
        subst z
        exact h5 (Option.some.inj ((findIx_get ei).symm.trans (findIx_get ej)))
      have lx : ∀ u, C.sc.names.lookup u = some .local → X.env.scope.names.lookup u = some .local := fun u h => by rw [m.sc]; exact h
      exact is_par m.calm m.hN (m.ix ei) (m.ix ej) ne (lx x h2) (lx y h3) (sndR m _ x a f1 e1) (sndR m _ y b f2 e2) (star_plain h6) (star_plain h7) hw (sw_sole rfl)
    · split at h
      · rename_i hn
        obtain ⟨t, et, h⟩ := Option.bind_eq_some_iff.mp h
        obtain ⟨f1, e1, rfl⟩ := Option.map_eq_some_iff.mp h
        have hsw : swappedStores [.Tuple [.Name x px, .Name y py] kt q] (.Tuple [a, b] k2 q2) X.env = pure none := by
          rcases Bool.or_eq_true_iff.mp hn with hn | hn
          · exact par2_no m hn
          · exact par_fold hn
        exact is_asg tgG_ok ((snd _).E _ X R m _ f1 e1) (compG_tgG m et) (sw_sole rfl) hsw rfl
      · cases h
  · rename_i ts k q e pos _ _
    split at h
    · rename_i hn
      obtain ⟨t, et, h⟩ := Option.bind_eq_some_iff.mp h
      obtain ⟨f1, e1, rfl⟩ := Option.map_eq_some_iff.mp h
      exact is_asg tgG_ok ((snd _).E _ X R m e f1 e1) (compG_tgG m et) (sw_sole rfl) (swst_of hn) rfl
    · cases h
  · rename_i o i q e pos
    split at h
    · rename_i hn
      obtain ⟨f1, e1, h⟩ := Option.bind_eq_some_iff.mp h
      obtain ⟨f2, e2, h⟩ := Option.bind_eq_some_iff.mp h
      obtain ⟨f3, e3, rfl⟩ := Option.map_eq_some_iff.mp h
      refine is_pool ((snd _).E _ X R m o f1 e1) ((snd _).E _ X R m i f2 e2) ((snd _).E _ X R m e f3 e3) (sw_sole rfl) (swst_tgt (fun _ _ _ z => nomatch z) (fun _ _ z => nomatch z)) rfl ?_
      intro v
      cases i <;> first | rfl | cases hn
    · cases h
  · rename_i x q op e pos
    split at h
    · rename_i hl
      obtain ⟨i, ei, h⟩ := Option.bind_eq_some_iff.mp h
      obtain ⟨g, eg, h⟩ := Option.bind_eq_some_iff.mp h
      obtain ⟨f1, e1, rfl⟩ := Option.map_eq_some_iff.mp h
      exact is_aug m ei hl eg ((snd _).E _ X R m e f1 e1)
    · cases h
  · rename_i c a b pos
    obtain ⟨t, et, h⟩ := Option.bind_eq_some_iff.mp h
    obtain ⟨f1, e1, h⟩ := Option.bind_eq_some_iff.mp h
    obtain ⟨f2, e2, rfl⟩ := Option.map_eq_some_iff.mp h
    exact is_if ((snd _).T _ X R m c t et) ((ih _ rfl).Ss _ X R m a f1 e1) ((ih _ rfl).Ss _ X R m b f2 e2)
  · rename_i tg it body pos
    split at h
    · rename_i hs
      obtain ⟨i, ei, h⟩ := Option.bind_eq_some_iff.mp h
      obtain ⟨t, et, h⟩ := Option.bind_eq_some_iff.mp h
      obtain ⟨f1, e1, rfl⟩ := Option.map_eq_some_iff.mp h
      exact is_for m.own m.calm tgG_ok ((snd _).I _ X R m tg it i ei) (compG_tgG m et) ((ih _ rfl).Ss _ X R m body f1 e1) (folded_of hs)
    · cases h
  · rename_i c body pos
    obtain ⟨t, et, h⟩ := Option.bind_eq_some_iff.mp h
    obtain ⟨f1, e1, rfl⟩ := Option.map_eq_some_iff.mp h
    exact is_while m.own ((snd _).T _ X R m c t et) ((ih _ rfl).Ss _ X R m body f1 e1)
  · cases h; exact is_pass
  · cases h; exact is_bk
  · cases h; exact is_ct
  · cases h
end
theorem sndS {p : Addr} : ∀ n, SndS p n
  | 0 => sndS0
  | n + 1 => by
    have ih := @sndS p n
    exact ⟨fun C X R m => sndS_ _ (fun n' hn => by cases hn; exact ih) m, fun C X R m => sndSs ih m⟩
end Ip

set_option maxHeartbeats 4000000
/-! IpJ: defs, the whole table, the law. -/
namespace Ip
open PySem L2

/-- a def: its name (of a method: by its class), its own name -/
structure DefI where
  name : Str
  st : Stmt
  ps : List Str
  N : List Str
  own : List Str := []
  frz : List (Nat × List Nat) := []
  short : Str := name

def scopeB (N ps : List Str) (sc : Scope) : Bool := decide (sc.kind = .function) && !sc.isCoroutine && !sc.isGenerator && decide (N.Nodup) && decide (N.take ps.length = ps) &&
  ps.all (fun x => decide (sc.names.lookup x = some .local) || decide (sc.names.lookup x = some .cell)) && sc.names.all (fun y => decide (y.2 ≠ .free))
theorem scopeB_ok {N ps : List Str} {sc : Scope} (h : scopeB N ps sc = true) : FnScope N ps sc := by
  unfold scopeB at h
  simp only [Bool.and_eq_true, decide_eq_true_eq, Bool.not_eq_true', List.all_eq_true, Bool.or_eq_true] at h
  obtain ⟨⟨⟨⟨⟨⟨h1, h2⟩, h3⟩, h4⟩, h5⟩, h6⟩, h7⟩ := h
  exact ⟨h1, h2, h3, h4, h5, h6, h7⟩
/-- the program: its defs, the built-in names that it uses, its constants -/
structure Prg where
  defs : List DefI
  bls : List Str
  cs : List (Str × D)
  mets : List DefI := []
  cls : List ClsI := []
def Prg.all (G : Prg) : List DefI := G.defs ++ G.mets
def Prg.ctx (G : Prg) (d : DefI) : Ctx := { N := d.N, sc := defScope d.st, bs := none, fns := G.defs.map fun e => (e.name, e.ps.length), bls := G.bls, cs := G.cs, own := d.own, frz := d.frz, cls := G.cls }
def Prg.body (G : Prg) (d : DefI) : Option SM := if scopeB d.N d.ps (defScope d.st) then compSs 60 (G.ctx d) (defBody d.st) else none
def Prg.find (G : Prg) (x : Str) : Option DefI := G.all.find? fun d => decide (d.name = x)
def startE (n : Nat) (ds : List D) : En := ds.map (fun d => some (SV.sh d)) ++ List.replicate (n - ds.length) none
def runB (n : Nat) (f : En → List D → Option (Fl × En × List D)) (ds : List D) (S : List D) : Option (D × List D) := (f (startE n ds) S).bind fun r => match r.1 with
  | .ret d => some (d, r.2.2)
  | .nx => some (.non, r.2.2)
  | _ => none
def Prg.run (G : Prg) : Nat → RC
  | 0 => fun _ _ _ => none
  | k + 1 => fun x ds S => (G.find x).bind fun d => (G.body d).bind fun f => runB d.N.length (f (G.run k)) ds S

/-- a class stands in the written part -/
def ClsOk (G : Prg) (K : PySem.W.Frag) (mg : Str → Option Value) (c : ClsI) : Prop := ∃ Ca, PySem.W.nsIn K mainGlobals c.name = some (some (.ref Ca)) ∧ Cls K Ca ∧ (∀ f ∈ c.flds, NoAttr K Ca f) ∧
    (∀ m ∈ c.meths, ∃ d ∈ G.mets, d.name = m.2.1 ∧ d.ps.length = m.2.2 + 1 ∧ ∃ f fd, Fun K d.short d.name d.st f fd ∧ Meth K Ca m.1 f ∧ Binds K fd d.ps []) ∧
    mg c.name = some (.ref Ca) ∧ ∃ fi fd ps, Mk K Ca fi ∧ (∀ (P : Program) (w : World) (base : Heap), FnOk P w K mg base CX0 1 fi fd ps (spInit Ca c.flds)) ∧ Binds K fd ps []
/-- the program stands in the written part -/
structure PrgOk (G : Prg) (p : Addr) (K : PySem.W.Frag) (mg : Str → Option Value) : Prop where
  defs : ∀ d ∈ G.defs, ∃ f fd, Fun K d.short d.name d.st f fd ∧ mg d.name = some (.ref f) ∧ Binds K fd d.ps []
  bls : ∀ x ∈ G.bls, mg x = none
  cs : ∀ x d, G.cs.lookup x = some d → ∃ u v, mg x = some u ∧ RelV v u ∧ ∀ B H, Rep K p B H v d
  cls : ∀ c ∈ G.cls, ClsOk G K mg c

section
variable {G : Prg} {p : Addr} {K : PySem.W.Frag} {mg : Str → Option Value} {P : Program} {w : World} {base : Heap}
theorem lookup_map {α β : Type} {f : α → Str} {g : α → β} : ∀ {l : List α} {x : Str} {b : β}, (l.map fun a => (f a, g a)).lookup x = some b → ∃ a ∈ l, f a = x ∧ g a = b
  | [], _, _, h => by simp at h
  | a :: l, x, b, h => by
    simp only [List.map_cons, List.lookup_cons] at h
    split at h
    · rename_i e
      cases h
      exact ⟨a, List.mem_cons_self, (by simpa using (beq_iff_eq.mp e).symm), rfl⟩
    · obtain ⟨a', h1, h2, h3⟩ := lookup_map h
      exact ⟨a', List.mem_cons_of_mem _ h1, h2, h3⟩
theorem start_get {N : List Str} {vs : List V} {i : Nat} {v : V} (h : vs[i]? = some v) : (L2.start N vs)[i]? = some (some v) := by
  unfold L2.start
  have hi : i < vs.length := (List.getElem?_eq_some_iff.mp h).1
  rw [List.getElem?_append_left (by rw [List.length_map]; exact hi), List.getElem?_map, h]
  rfl
theorem startE_get {n : Nat} {ds : List D} {i : Nat} {x : SV} (h : (startE n ds)[i]? = some (some x)) : ∃ d, ds[i]? = some d ∧ x = .sh d := by
  unfold startE at h
  by_cases hi : i < ds.length
  · rw [List.getElem?_append_left (by rw [List.length_map]; exact hi), List.getElem?_map] at h
    obtain ⟨d, hd, e⟩ := Option.map_eq_some_iff.mp h
    exact ⟨d, hd, (Option.some.inj e).symm⟩
  · rw [List.getElem?_append_right (by rw [List.length_map]; omega)] at h
    rw [List.getElem?_replicate] at h
    split at h
    · cases h
    · cases h
theorem start_FI {B0 : Addr → Prop} {H : Hp} {S : List D} {N : List Str} {vs : List V} {ds : List D} (r : Reps K p (Bf B0 p oa0) H vs ds) (hb : ∀ b, B0 b → ∃ o, H b = some o ∧ MutO o) (hp : PoolOk K p (Bf B0 p oa0) H S) (hl : vs.length ≤ N.length) :
    FI K p B0 oa0 (startE N.length ds) (L2.start N vs) H S where
  len := by
    unfold startE L2.start
    rw [List.length_append, List.length_append, List.length_map, List.length_map, List.length_replicate, List.length_replicate, r.length]
  sh := fun i d e => by
    obtain ⟨d', hd, e'⟩ := startE_get e
    cases e'
    obtain ⟨v, hv, q⟩ := r.get hd
    exact ⟨v, start_get hv, q⟩
  ow := fun i a e => nomatch e
  has := fun i x e => by
    obtain ⟨d', hd, e'⟩ := startE_get e
    exact .inl ⟨d', e'⟩
  inj := fun i j a e _ => nomatch e
  dis := fun i a e => nomatch e
  b0 := hb
  pool := hp
theorem Mv.keep {H H' : Hp} (m : Mv p oa0 oa0 H H') : Keep p H H' := fun b o n h => m.kp b o n own0 h
/-- what a body's end gives -/
theorem end_I {B0 : Addr → Prop} {H : Hp} {S : List D} {N : List Str} {vs : List V} {ds : List D} {f : En → List D → Option (Fl × En × List D)} {Q : VK} (f0 : FI K p B0 oa0 (startE N.length ds) (L2.start N vs) H S) {r : D × List D} (e : runB N.length f ds S = some r)
    (k : ∀ v H', Keep p H H' → PoolOk K p (Bf B0 p oa0) H' r.2 → Rep K p (Bf B0 p oa0) H' v r.1 → Q v H') : tIS K p f { nx := fun _ H' => Q .non H', rt := Q } (L2.start N vs) H := by
  unfold runB at e
  obtain ⟨x, ex, e⟩ := Option.bind_eq_some_iff.mp e
  refine ⟨_, S, B0, oa0, f0, x, ex, ?_⟩
  obtain ⟨fl, env', S'⟩ := x
  cases fl with
  | ret d =>
    cases e
    exact fun v H' m q r => k v H' m.keep q r
  | nx =>
    cases e
    intro σ' H' oa' f' m'
    obtain ⟨vs', e', q'⟩ := f'.pool
    refine k .non H' (fun b o n h => m'.kp b o n own0 h) ⟨vs', e', q'.less fun b h => ?_⟩ .non
    rcases h with h | h | h
    · exact .inl h
    · exact .inr (.inl h)
    · exact absurd h own0
  | bk => cases e
  | ct => cases e
theorem mt_of (ok : PrgOk G p K mg) {d : DefI} {k : Nat} (hs : scopeB d.N d.ps (defScope d.st) = true) (ih : ∀ e ∈ G.all, ∀ f fd, Fun K e.short e.name e.st f fd → FnOk P w K mg base CX0 (k + 2) f fd e.ps (spI K p e.ps.length (G.run k e.name)))
    {cdv : Value} {A : Around} {outer : List Env} {s : Shared} {H : Hp} {E : XK} {f : Addr} (hr : Room (k + 2) (A.deeper (PyProof.Rows.envOfC d.name (defScope d.st) s.heap.objs.size f cdv))) : Mt p (G.ctx d) (cxOf CX0 P w K mg base d.N d.name (defScope d.st) f cdv A outer s H E).nox (G.run k) where
  N := rfl
  nd := (scopeB_ok hs).nd
  sc := rfl
  fn := fun _ _ => rfl
  calm := rfl
  units := Nat.lt_of_le_of_lt (Nat.le_add_right _ (16 * (k + 2))) (by have := hr.un; rw [Nat.add_right_comm]; exact this)
  xe := rfl
  fns := fun x m h => by
    obtain ⟨e, he, rfl, rfl⟩ := lookup_map h
    obtain ⟨g, gd, F, hm, hb⟩ := ok.defs e he
    exact ⟨k + 2, g, gd, e.ps, ih e (List.mem_append_left _ he) g gd F, hr, hm, F.kp, hb⟩
  bls := ok.bls
  cs := ok.cs
  room := hr.mono (Nat.le_add_left 2 k)
  cls := fun c hc => by
    obtain ⟨Ca, n1, n2, n3, n4, n5, fi, fd, ps, M, F, hb⟩ := ok.cls c hc
    refine ⟨Ca, n1, n2, n3, fun m hm => ?_, n5, fi, fd, ps, M, F P w base, hb⟩
    obtain ⟨d, hd, e1, e2, g, gd, F2, hM, hb2⟩ := n4 m hm
    have q := ih d (List.mem_append_right _ hd) g gd F2
    rw [e1, e2] at q
    exact ⟨k + 2, g, gd, d.ps, hM, q, hr, hb2⟩
/-- every def keeps its promise at every level -/
theorem all_ok (ok : PrgOk G p K mg) (un : ∀ d ∈ G.all, G.find d.name = some d) : ∀ (k : Nat), ∀ d ∈ G.all, ∀ f fd, Fun K d.short d.name d.st f fd → FnOk P w K mg base CX0 (k + 2) f fd d.ps (spI K p d.ps.length (G.run k d.name))
  | 0 => fun d hd f fd F => by
    have no : ∀ vs H Q E, ¬ spI K p d.ps.length (G.run 0 d.name) vs H Q E := fun vs H Q E h => by
      obtain ⟨ds, S, B0, _, _, _, _, r, e, _⟩ := h
      cases e
    exact ⟨fun vs H Q E h => absurd h (no vs H Q E), fun A outer s H args us vs Q E _ _ _ _ h => absurd h (no vs H Q E)⟩
  | k + 1 => fun d hd f fd F => by
    have ih := all_ok ok un k
    have ex : ∀ vs H Q E, spI K p d.ps.length (G.run (k + 1) d.name) vs H Q E → ∃ g, G.body d = some g := fun vs H Q E h => by
      obtain ⟨ds, S, B0, _, _, _, _, r, e, _⟩ := h
      unfold Prg.run at e
      rw [un d hd] at e
      obtain ⟨d', ed, e⟩ := Option.bind_eq_some_iff.mp e
      cases ed
      obtain ⟨g, eg, e⟩ := Option.bind_eq_some_iff.mp e
      exact ⟨g, eg⟩
    by_cases hg : ∃ g, G.body d = some g
    · obtain ⟨g, hg⟩ := hg
      have hg' := hg
      unfold Prg.body at hg'
      split at hg'
      · rename_i hs
        have S := scopeB_ok hs
        have hpn : d.ps.length ≤ d.N.length := by
          have h := S.pre
          have h2 : (d.N.take d.ps.length).length = d.ps.length := by rw [h]
          rw [List.length_take] at h2
          omega
        refine F.ok S (fun vs H Q E h => h.elim fun _ h => h.elim fun _ h => h.elim fun _ h => h.1) (fun cdv A outer s H vs Q E hr h => ?_)
        have m := mt_of (E := E) (H := H) (s := s) (outer := outer) ok hs ih hr
        refine ⟨_, (sndS 60).Ss (G.ctx d) _ (G.run k) m (defBody d.st) g hg', ?_⟩
        obtain ⟨ds, S0, B0, hl, r0, hb, hp, r, e, kk⟩ := h
        unfold Prg.run at e
        rw [un d hd] at e
        obtain ⟨d', ed, e⟩ := Option.bind_eq_some_iff.mp e
        cases ed
        rw [hg] at e
        exact end_I (start_FI r0 hb hp (by rw [hl]; exact hpn)) e kk
      · cases hg'
    · exact ⟨fun vs H Q E h => absurd (ex vs H Q E h) hg, fun A outer s H args us vs Q E _ _ _ _ h => absurd (ex vs H Q E h) hg⟩
end
end Ip

set_option maxHeartbeats 4000000
/-! IpK: the law's own def. -/
namespace Ip
open PySem L2

/-- the pool is made: a new list of a copy of the script, three noughts and a number -/
def spPool (K : PySem.W.Frag) : Sp := fun vs H Q _ => ∃ (a : Addr) (ns : List Int), vs = [.ref a] ∧ SqL K H a (ns.map V.int) ∧ ns.length ≤ 63 ∧
  ∀ (salt : Int) (q p : Addr) (H' : Hp), Same H H' → H p = none → H q = none → q ≠ p → H' q = some (.lst (ns.map V.int)) → H' p = some (.lst [.ref q, .int 0, .int 0, .int 0, .int salt]) → Q (.ref p) H'
def spLaw (K : PySem.W.Frag) : Sp := fun vs H Q _ => ∃ (a : Addr) (ns : List Int), vs = [.ref a] ∧ SqL K H a (ns.map V.int) ∧ ns.length ≤ 63 ∧ ∀ H', Q (.bl true) H'
/-- the pool at first -/
def pool0 (ns : List Int) (salt : Int) : List D := [.lst (ns.map .int), .int 0, .int 0, .int 0, .int salt]
def envL (n j : Nat) : En := (List.replicate n none).set j (some (.sh .pool))

section
variable {G : Prg} {K : PySem.W.Frag} {mg : Str → Option Value} {P : Program} {w : World} {base : Heap}
theorem ints_reps {p : Addr} {B : Addr → Prop} {H : Hp} : ∀ ns : List Int, Reps K p B H (ns.map V.int) (ns.map D.int)
  | [] => .nil
  | n :: ns => .cons (.int n) (ints_reps ns)
theorem ok_law {d : DefI} {k j : Nat} {f fp : Addr} {fd fpd : FuncData} {q1 q2 q3 q4 q5 : Pos} {rest : List Stmt} {g : SM} (ok : ∀ p, PrgOk G p K mg) (un : ∀ d ∈ G.all, G.find d.name = some d) (hd : d.ps = [("script" : Str)]) (hn : d.name = "law")
    (F : Fun K "law" "law" d.st f fd) (hs : scopeB d.N d.ps (defScope d.st) = true) (Gp : FnOk P w K mg base CX0 (k + 2) fp fpd ["script"] (spPool K)) (hm : mg "_law_pool" = some (.ref fp)) (hk : PySem.W.keepIn K (.ref fp) = true) (hb : Binds K fpd ["script"] [])
    (hbody : defBody d.st = .Assign [.Name "pool" q1] (.Call (.Name "_law_pool" q2) [.Name "script" q3] [] q4) q5 :: rest) (hj : findIx d.N "pool" = some j) (hl : locB (G.ctx d) "pool" = true) (hv : visB (defScope d.st) "script" = true) (h0 : findIx d.N "script" = some 0) (hg : glB (defScope d.st) "_law_pool" = true)
    (hc : compSs 60 (G.ctx d) rest = some g) (plain : ∀ (ns : List Int) (salt : Int), ns.length ≤ 63 → ∃ env' S', g (G.run k) (envL d.N.length j) (pool0 ns salt) = some (.ret (.bl true), env', S')) :
    FnOk P w K mg base CX0 (k + 3) f fd ["script"] (spLaw K) := by
  have S := scopeB_ok hs
  rw [hd] at S
  have F' : Fun K "law" "law" d.st f fd := F
  refine F.ok S (fun vs H Q E h => ?_) (fun cdv A outer s H vs Q E hr h => ?_)
  · obtain ⟨a, ns, rfl, _⟩ := h
    rfl
  have m : ∀ p, Mt p (G.ctx d) (cxOf CX0 P w K mg base d.N d.name (defScope d.st) f cdv A outer s H E).nox (G.run k) := fun p => mt_of (E := E) (H := H) (s := s) (outer := outer) (ok p) hs (all_ok (ok p) un k) (by rw [hn]; exact hr)
  rw [hn] at m
  obtain ⟨a, ns, rfl, hS, h63, q⟩ := h
  obtain ⟨l1, l2⟩ := (m 0).loc hl
  rw [hbody]
  refine ⟨_, pss_cons (ps_set (m 0).hN ((m 0).ix hj) l1 (pe_call Gp hr ((m 0).gl hg) hm hk hb .nil pass0 (pa_cons (pe_var ((m 0).ix h0) ((m 0).vis hv)) pa_nil)) (hf := l2))
    (u := fun Dn σ H => ∃ p, tIS K p (g (G.run k)) Dn σ H) ⟨fun pins s σ H Dn I ⟨p, z⟩ => ((sndS 60).Ss (G.ctx d) _ (G.run k) (m p) rest g hc).run pins s σ H Dn I z⟩, ?_⟩
  refine ⟨_, rfl, a, ns, rfl, hS, h63, fun salt b p H' sm hp hq ne eq ep => ?_⟩
  refine ⟨p, ?_⟩
  obtain ⟨env', S', e⟩ := plain ns salt h63
  have hjl : j < d.N.length := (List.getElem?_eq_some_iff.mp (findIx_get hj)).1
  have hpl : PoolOk K p (Bf (fun _ => False) p oa0) H' (pool0 ns salt) := by
    refine ⟨_, ep, .cons (.lst eq (fun z => ?_) (ints_reps ns)) (.cons (.int _) (.cons (.int _) (.cons (.int _) (.cons (.int _) .nil))))⟩
    rcases z with z | z | z
    · exact z
    · exact ne z
    · exact own0 z
  refine ⟨envL d.N.length j, pool0 ns salt, fun _ => False, oa0, ⟨?_, fun i x ei => ?_, (fun i a e => nomatch e), fun i x ei => ?_, (fun i j a e _ => nomatch e), (fun i a e => nomatch e), (fun b h => False.elim h), hpl⟩, _, e, ?_⟩
  · unfold envL L2.start
    simp
    omega
  · unfold envL at ei
    by_cases hi : i = j
    · subst hi
      obtain ⟨z, _⟩ := get_set_eq ei
      cases z
      refine ⟨.ref p, List.getElem?_set_self (by unfold L2.start; simp; omega), .pool⟩
    · rw [get_set_ne hi, List.getElem?_replicate] at ei
      split at ei <;> cases ei
  · unfold envL at ei
    by_cases hi : i = j
    · subst hi
      obtain ⟨z, _⟩ := get_set_eq ei
      cases z
      exact .inl ⟨_, rfl⟩
    · rw [get_set_ne hi, List.getElem?_replicate] at ei
      split at ei <;> cases ei
  · intro v H2 _ _ r
    have ev : v = .bl true := rep_bl r
    rw [ev]
    exact q H2
end
end Ip

set_option maxHeartbeats 4000000
/-! IpL: from the head's facts to the law. -/
namespace Ip
open PySem L2
def DefAt (K : PySem.W.Frag) (mg : Str → Option Value) (d : DefI) : Prop := ∃ f fd, Fun K d.short d.name d.st f fd ∧ mg d.name = some (.ref f) ∧ Binds K fd d.ps []
theorem defAt {K : PySem.W.Frag} {h : Heap} {mg : Str → Option Value} {d : DefI} (X : K.In h) (G : h.Ns mainGlobals mg) {f : Addr} {od an : Option Addr} {sl : Array (Option Value)} {oc kV dc pm cd ct : Value}
    (a : PySem.W.nsIn K mainGlobals d.name = some (some (.ref f))) (l : K.lookup f = some ⟨oc, od, .func (PySem.W.fnOf d.short d.name (defArgs d.st) (defBody d.st) (defScope d.st) .none kV dc pm an cd ct), sl⟩) (c : PySem.W.codeIn K cd d.name = true) (k : PySem.W.keepIn K (.ref f) = true)
    (b : ∀ (kV doc pm : Value) (an : Option Addr) (cdv ct : Value) (us : List Value), us.length = d.ps.length → bindArgs (PySem.W.fnOf d.short d.name (defArgs d.st) (defBody d.st) (defScope d.st) .none kV doc pm an cdv ct) ⟨us, []⟩ = pure (d.ps.zip us)) : DefAt K mg d :=
  have F := fun_mk (st := d.st) l c k
  ⟨f, _, F, PySem.W.mg_of X G a, F.binds b⟩
def clsBody : Stmt → List Stmt
  | .ClassDef _ _ _ body _ _ _ _ _ _ _ => body
  | _ => []
/-- a method's facts -/
def MetAt (K : PySem.W.Frag) (Ca : Addr) (d : DefI) : Prop := ∃ f fd, Fun K d.short d.name d.st f fd ∧ Meth K Ca d.short f ∧ Binds K fd d.ps []
theorem metAt {K : PySem.W.Frag} {d : DefI} {Ca f : Addr} {od an : Option Addr} {sl : Array (Option Value)} {oc kV dc pm cd ct : Value}
    (a : PySem.W.findIn K (.ref Ca) d.short = some (some (.ref f))) (i : PySem.W.isFn K (.ref f) = true) (l : K.lookup f = some ⟨oc, od, .func (PySem.W.fnOf d.short d.name (defArgs d.st) (defBody d.st) (defScope d.st) .none kV dc pm an cd ct), sl⟩) (c : PySem.W.codeIn K cd d.name = true) (k : PySem.W.keepIn K (.ref f) = true)
    (b : ∀ (kV doc pm : Value) (an : Option Addr) (cdv ct : Value) (us : List Value), us.length = d.ps.length → bindArgs (PySem.W.fnOf d.short d.name (defArgs d.st) (defBody d.st) (defScope d.st) .none kV doc pm an cdv ct) ⟨us, []⟩ = pure (d.ps.zip us)) : MetAt K Ca d :=
  have F := fun_mk (st := d.st) l c k
  ⟨f, _, F, ⟨a, i, k⟩, F.binds b⟩
/-- a class of two fields, all its methods told -/
theorem clsAt2 {G : Prg} {K : PySem.W.Frag} {h : Heap} {mg : Str → Option Value} {c : ClsI} {i : DefI} {Ca fi : Addr} {od an : Option Addr} {sl : Array (Option Value)} {oc kV dc pm cd ct : Value} {s a b f g : Str} {q1 q2 q3 q4 q5 q6 q7 q8 : Pos} (X : K.In h) (Gn : h.Ns mainGlobals mg)
    (aC : PySem.W.nsIn K mainGlobals c.name = some (some (.ref Ca))) (pg : PySem.W.plainGet K Ca Str.empty = true) (hd : PySem.W.hasDictIn K Ca = true) (po : PySem.W.plainOver K Ca = true) (sa : PySem.W.findIn K (.ref Ca) "__setattr__" = some (some (.builtin "object.__setattr__")))
    (mk : PySem.W.makesIn K Ca = true) (kc : PySem.W.keepIn K (.ref Ca) = true) (hfl : c.flds = [f, g]) (nf : PySem.W.findIn K (.ref Ca) f = some none) (ng : PySem.W.findIn K (.ref Ca) g = some none)
    (ai : PySem.W.findIn K (.ref Ca) "__init__" = some (some (.ref fi))) (ii : PySem.W.isFn K (.ref fi) = true) (li : K.lookup fi = some ⟨oc, od, .func (PySem.W.fnOf i.short i.name (defArgs i.st) (defBody i.st) (defScope i.st) .none kV dc pm an cd ct), sl⟩) (ci : PySem.W.codeIn K cd i.name = true) (ki : PySem.W.keepIn K (.ref fi) = true) (ei : i.short = "__init__")
    (eb : defBody i.st = [.Assign [.Attribute (.Name s q1) f q2] (.Name a q3) q4, .Assign [.Attribute (.Name s q5) g q6] (.Name b q7) q8]) (S : scopeB [s, a, b] [s, a, b] (defScope i.st) = true) (vv : (visB (defScope i.st) s && visB (defScope i.st) a && visB (defScope i.st) b && plainN s && plainN a && plainN b) = true) (hfg : f ≠ g)
    (bi : ∀ (kV doc pm : Value) (an : Option Addr) (cdv ct : Value) (us : List Value), us.length = 3 → bindArgs (PySem.W.fnOf i.short i.name (defArgs i.st) (defBody i.st) (defScope i.st) .none kV doc pm an cdv ct) ⟨us, []⟩ = pure ([s, a, b].zip us))
    (hm : ∀ m ∈ c.meths, ∃ d ∈ G.mets, d.short = m.1 ∧ d.name = m.2.1 ∧ d.ps.length = m.2.2 + 1) (hd2 : ∀ d ∈ G.mets, MetAt K Ca d) : ClsOk G K mg c := by
  have hc : Cls K Ca := ⟨pg, hd, po, sa⟩
  have F := fun_mk (st := i.st) li ci ki
  simp only [Bool.and_eq_true] at vv
  obtain ⟨⟨⟨⟨⟨v1, v2⟩, v3⟩, v4⟩, v5⟩, v6⟩ := vv
  refine ⟨Ca, aC, hc, fun x hx => ?_, fun m hmm => ?_, PySem.W.mg_of X Gn aC, fi, _, [s, a, b], ⟨mk, ai, ii, kc⟩, fun P w base => ?_, F.binds (ps := [s, a, b]) bi⟩
  · rw [hfl] at hx
    rcases List.mem_cons.mp hx with rfl | hx
    · exact nf
    · rw [List.mem_singleton] at hx
      subst hx
      exact ng
  · obtain ⟨d, hdm, e1, e2, e3⟩ := hm m hmm
    obtain ⟨f', fd, F', M, B⟩ := hd2 d hdm
    exact ⟨d, hdm, e2, e3, f', fd, F', by rw [← e1]; exact M, B⟩
  · rw [hfl]
    have F' : Fun K "__init__" i.name i.st fi (PySem.W.fnOf i.short i.name (defArgs i.st) (defBody i.st) (defScope i.st) .none kV dc pm an cd ct) := by
      rw [← ei]
      exact F
    exact ok_init2 F' (scopeB_ok S) eb (visB_ok v1) (visB_ok v2) (visB_ok v3) (plain_dbg v4) (plain_dbg v5) (plain_dbg v6) hc nf ng hfg
/-- a constant of the module -/
def CsAt (K : PySem.W.Frag) (mg : Str → Option Value) (x : Str) (d : D) : Prop := ∃ u v, mg x = some u ∧ RelV v u ∧ ∀ (p : Addr) (B : Addr → Prop) (H : Hp), Rep K p B H v d
mutual
inductive KRep (K : PySem.W.Frag) : Value → V → D → Prop
  | int (i : Int) (t : Tok) : KRep K (.int i t) (.int i) (.int i)
  | str (x : Str) (t : Tok) : KRep K (.str x t) (.str x) (.str x)
  | non : KRep K .none .non .non
  | bl (b : Bool) : KRep K (.bool b) (.bl b) (.bl b)
  | tup {a : Addr} {its : Array Value} {n : Nat} {sl : Array (Option Value)} {vs : List V} {ds : List D} : K.lookup a = some ⟨.type "tuple", none, .seq its n, sl⟩ → its.size ≤ sizeLine → KReps K its.toList vs ds → KRep K (.ref a) (.ref a) (.tup ds)
inductive KReps (K : PySem.W.Frag) : List Value → List V → List D → Prop
  | nil : KReps K [] [] []
  | cons {u : Value} {v : V} {d : D} {us : List Value} {vs : List V} {ds : List D} : KRep K u v d → KReps K us vs ds → KReps K (u :: us) (v :: vs) (d :: ds)
end
theorem KRep.rel {K : PySem.W.Frag} {u : Value} {v : V} {d : D} (r : KRep K u v d) : RelV v u ∧ ∀ (p : Addr) (B : Addr → Prop) (H : Hp), Rep K p B H v d := by
  refine KRep.rec (motive_1 := fun u v d _ => RelV v u ∧ ∀ (p : Addr) (B : Addr → Prop) (H : Hp), Rep K p B H v d) (motive_2 := fun us vs ds _ => Vals vs us ∧ ∀ (p : Addr) (B : Addr → Prop) (H : Hp), Reps K p B H vs ds) ?_ ?_ ?_ ?_ ?_ ?_ ?_ r
  · exact fun i t => ⟨⟨t, rfl⟩, fun p B H => .int i⟩
  · exact fun x t => ⟨⟨t, rfl⟩, fun p B H => .str x⟩
  · exact ⟨rfl, fun p B H => .non⟩
  · exact fun b => ⟨rfl, fun p B H => .bl b⟩
  · intro a its n sl vs ds l hs _ ih
    exact ⟨rfl, fun p B H => .tup (.inr ⟨_, its, n, l, rfl, rfl, rfl, hs, ih.1⟩) (ih.2 p B H)⟩
  · exact ⟨.nil, fun p B H => .nil⟩
  · intro u v d us vs ds _ _ h1 h2
    exact ⟨.cons h1.1 h2.1, fun p B H => .cons (h1.2 p B H) (h2.2 p B H)⟩
theorem csAt {K : PySem.W.Frag} {h : Heap} {mg : Str → Option Value} (X : K.In h) (Gn : h.Ns mainGlobals mg) {x : Str} {u : Value} {v : V} {d : D} (a : PySem.W.nsIn K mainGlobals x = some (some u)) (r : KRep K u v d) : CsAt K mg x d :=
  ⟨u, v, PySem.W.mg_of X Gn a, r.rel.1, r.rel.2⟩
theorem cs_of {K : PySem.W.Frag} {mg : Str → Option Value} : ∀ {cs : List (Str × D)}, (∀ c ∈ cs, CsAt K mg c.1 c.2) → ∀ (p : Addr) (x : Str) (d : D), cs.lookup x = some d → ∃ u v, mg x = some u ∧ RelV v u ∧ ∀ B H, Rep K p B H v d
  | [], _, _, _, _, h => by cases h
  | c :: cs, hc, p, x, d, h => by
    rw [List.lookup_cons] at h
    split at h
    · rename_i e
      cases h
      obtain ⟨u, v, h1, h2, h3⟩ := hc c List.mem_cons_self
      rw [← beq_iff_eq.mp e] at h1
      exact ⟨u, v, h1, h2, h3 p⟩
    · exact cs_of (fun c h => hc c (List.mem_cons_of_mem _ h)) p x d h
theorem un_of {l : List DefI} (h : (l.map DefI.name).Nodup) : ∀ d ∈ l, l.find? (fun e => decide (e.name = d.name)) = some d := by
  induction l with
  | nil => intro d hd; cases hd
  | cons e l ih =>
    intro d hd
    rw [List.map_cons, List.nodup_cons] at h
    rcases List.mem_cons.mp hd with rfl | hd
    · rw [List.find?_cons_of_pos (by simp)]
    · have hne : e.name ≠ d.name := fun z => h.1 (z ▸ List.mem_map_of_mem hd)
      rw [List.find?_cons_of_neg (by simpa using hne)]
      exact ih h.2 d hd
theorem walk {l : PySem.W.OpenLaw} {q : Program} {loose : List Str} {XP : (Str → Option Value) → Heap → Prop} {YP : World → Heap → Prop} {d : DefRec} {K : Params → PySem.W.Frag} {k : Nat} (hk : k ≤ 200) (hn : l.most = some 63) (hdf : d.params.defaults = [])
    (hY : ∀ (w : World) (h : Heap), YP w h → (K w.params).In h)
    (F : ∀ (w : World) (mg : Str → Option Value) (fa : Addr) (h : Heap), (K w.params).In h → h.Ns mainGlobals mg → mg d.name = some (.ref fa) →
      ∃ fd : FuncData, (∀ (s : Shared) (u : Value), BindsTo s fd ⟨[u], []⟩ [("script", u)]) ∧ ∀ base : Heap, (K w.params).In base → base.Ns mainGlobals mg → FnOk l.prog w (K w.params) mg base CX0 k fa fd ["script"] (spLaw (K w.params))) :
    PySem.W.WalkO q loose XP YP l.row.toRowW d [] (fun f vs => PySem.call f vs) :=
  L2.walk_of (n := 63) (k := k) (x := "script") (CX := fun _ => CX0) (sp := fun w => spLaw (K w.params)) hn (by decide) hdf (Room.mono (k := 200) ⟨rfl, by decide, by decide⟩ hk) hY F (fun _ _ a ns hl _ hS => ⟨a, ns, rfl, hS, hl, fun _ => rfl⟩) fun _ _ _ _ _ z => z
end Ip

set_option maxHeartbeats 1000000
/-! IpV: the meanings reckoned, step by step: every step waits for its first part. -/
namespace Ip
open PySem L2
section
variable {R : RC} {env e1 : En} {S S1 S2 : List D} {a b d : D} {ds : List D} {f g h : XM} {as : AM} {o o' : D → D → Option D} {t u : TM} {p q r : SM} {i j : Nat}
/-! ### waiting -/
def pairK : Option D → List D → Option (D × List D)
  | some d, S => some (d, S)
  | none, _ => none
def varK : Option (Option SV) → List D → Option (D × List D)
  | some (some (.sh d)), S => some (d, S)
  | _, _ => none
def binK2 (o : D → D → Option D) (a : D) (x : Option (D × List D)) : Option (D × List D) := x.bind fun y => (o a y.1).map fun d => (d, y.2)
def binK1 (o : D → D → Option D) (g : XM) (R : RC) (env : En) (x : Option (D × List D)) : Option (D × List D) := x.bind fun x => binK2 o x.1 (g R env x.2)
def unK (o : D → Option D) (x : Option (D × List D)) : Option (D × List D) := x.bind fun y => (o y.1).map fun d => (d, y.2)
def appK (o : List D → Option D) (x : Option (List D × List D)) : Option (D × List D) := x.bind fun y => (o y.1).map fun d => (d, y.2)
def callK (x : Str) (R : RC) (y : Option (List D × List D)) : Option (D × List D) := y.bind fun y => R x y.1 y.2
def consK2 (a : D) (x : Option (List D × List D)) : Option (List D × List D) := x.map fun y => (a :: y.1, y.2)
def consK1 (g : AM) (R : RC) (env : En) (x : Option (D × List D)) : Option (List D × List D) := x.bind fun x => consK2 x.1 (g R env x.2)
def tupK (x : Option (List D × List D)) : Option (D × List D) := x.bind fun x => if x.1.length ≤ sizeLine then some (.tup x.1, x.2) else none
def dispK (x : Option (List D × List D)) : Option (List D × List D) := x.bind fun x => if x.1.length ≤ sizeLine then some x else none
def lstK (x : Option (List D × List D)) : Option (D × List D) := x.map fun x => (.lst x.1, x.2)
def ixK2 (a : D) (x : Option (D × List D)) : Option (D × List D) := x.bind fun y => match a, y.1 with
  | .pool, .int i => (atI y.2 i).map fun d => (d, y.2)
  | d, e => (ixD d e).map fun r => (r, y.2)
def ixK1 (g : XM) (R : RC) (env : En) (x : Option (D × List D)) : Option (D × List D) := x.bind fun x => ixK2 x.1 (g R env x.2)
def blK (x : Option (D × List D)) : Option (Bool × List D) := x.bind fun x => (blD x.1).map fun b => (b, x.2)
def truK (x : Option (D × List D)) : Option (Bool × List D) := x.bind fun x => (truD x.1).map fun b => (b, x.2)
def notK (x : Option (Bool × List D)) : Option (Bool × List D) := x.map fun x => (!x.1, x.2)
def andK (g : TM) (R : RC) (env : En) (x : Option (Bool × List D)) : Option (Bool × List D) := x.bind fun x => if x.1 = true then g R env x.2 else some (false, x.2)
def orK (g : TM) (R : RC) (env : En) (x : Option (Bool × List D)) : Option (Bool × List D) := x.bind fun x => if x.1 = true then some (true, x.2) else g R env x.2
def xandK (g : XM) (R : RC) (env : En) (x : Option (D × List D)) : Option (D × List D) := x.bind fun x => (blD x.1).bind fun c => if c = true then g R env x.2 else some (.bl false, x.2)
def xorK (g : XM) (R : RC) (env : En) (x : Option (D × List D)) : Option (D × List D) := x.bind fun x => (blD x.1).bind fun c => if c = true then some (.bl true, x.2) else g R env x.2
def xnotK (x : Option (D × List D)) : Option (D × List D) := x.bind fun x => (blD x.1).map fun c => (.bl (!c), x.2)
def xifK (f g : XM) (R : RC) (env : En) (x : Option (Bool × List D)) : Option (D × List D) := x.bind fun x => if x.1 = true then f R env x.2 else g R env x.2
def chK4 (o' : D → D → Option D) (b : D) (x : Option (D × List D)) : Option (D × List D) := x.bind fun z => (o' b z.1).map fun d => (d, z.2)
def chK3 (o' : D → D → Option D) (h : XM) (R : RC) (env : En) (b : D) (S : List D) (x : Option D) : Option (D × List D) := (x.bind blD).bind fun k => if k = true then chK4 o' b (h R env S) else some (.bl false, S)
def chK2 (o o' : D → D → Option D) (h : XM) (R : RC) (env : En) (a : D) (x : Option (D × List D)) : Option (D × List D) := x.bind fun y => chK3 o' h R env y.1 y.2 (o a y.1)
def chK1 (o o' : D → D → Option D) (g h : XM) (R : RC) (env : En) (x : Option (D × List D)) : Option (D × List D) := x.bind fun x => chK2 o o' h R env x.1 (g R env x.2)
def sliK3 (a : D) (l : Option Int) (x : Option (Option Int × List D)) : Option (D × List D) := x.bind fun h => (sliD a l h.1).map fun d => (d, h.2)
def sliK2 (hi : OM) (R : RC) (env : En) (a : D) (x : Option (Option Int × List D)) : Option (D × List D) := x.bind fun l => sliK3 a l.1 (hi R env l.2)
def sliK1 (lo hi : OM) (R : RC) (env : En) (x : Option (D × List D)) : Option (D × List D) := x.bind fun x => sliK2 hi R env x.1 (lo R env x.2)
def osoK (x : Option (D × List D)) : Option (Option Int × List D) := x.bind fun x => match x.1 with
  | .int i => some (some i, x.2)
  | _ => none
def iofK (x : Option (D × List D)) : Option (List D × List D) := x.bind fun x => (itD x.1).map fun ds => (ds, x.2)
def iargK (o : List D → Option (List D)) (x : Option (List D × List D)) : Option (List D × List D) := x.bind fun x => (o x.1).map fun ds => (ds, x.2)
def seqK (q : SM) (R : RC) (x : Option (Fl × En × List D)) : Option (Fl × En × List D) := x.bind fun r => match r.1 with
  | .nx => q R r.2.1 r.2.2
  | _ => some r
def ifK (p q : SM) (R : RC) (env : En) (x : Option (Bool × List D)) : Option (Fl × En × List D) := x.bind fun x => if x.1 = true then p R env x.2 else q R env x.2
def retK (env : En) (x : Option (D × List D)) : Option (Fl × En × List D) := x.map fun x => (.ret x.1, env, x.2)
def asgK (t : Tg) (env : En) (x : Option (D × List D)) : Option (Fl × En × List D) := x.bind fun x => (putT t x.1 env).map fun env' => (.nx, env', x.2)
def poolK3 (env : En) (v : D) (a : D) (x : Option (D × List D)) : Option (Fl × En × List D) := x.bind fun z => match a, z.1 with
  | .pool, .int i => (ixN z.2.length i).map fun j => (.nx, env, z.2.set j v)
  | _, _ => none
def poolK2 (fi : XM) (R : RC) (env : En) (v : D) (x : Option (D × List D)) : Option (Fl × En × List D) := x.bind fun y => poolK3 env v y.1 (fi R env y.2)
def poolK1 (fo fi : XM) (R : RC) (env : En) (x : Option (D × List D)) : Option (Fl × En × List D) := x.bind fun x => poolK2 fi R env x.1 (fo R env x.2)
def forK (t : Tg) (q : SM) (R : RC) (env : En) (x : Option (List D × List D)) : Option (Fl × En × List D) := x.bind fun x => forL t (q R) x.1 env x.2
def forK2 (t : Tg) (b : En → List D → Option (Fl × En × List D)) (ds : List D) (x : Option (Fl × En × List D)) : Option (Fl × En × List D) := x.bind fun r => match r.1 with
  | .nx => forL t b ds r.2.1 r.2.2
  | .ct => forL t b ds r.2.1 r.2.2
  | .bk => some (.nx, r.2.1, r.2.2)
  | .ret d => some (.ret d, r.2.1, r.2.2)
def forK1 (t : Tg) (b : En → List D → Option (Fl × En × List D)) (ds : List D) (S : List D) (x : Option En) : Option (Fl × En × List D) := x.bind fun e => forK2 t b ds (b e S)
def augK (i : Nat) (o : D → D → Option D) (env : En) (a : D) (x : Option (D × List D)) : Option (Fl × En × List D) := x.bind fun x => (o a x.1).map fun r => (.nx, env.set i (some (.sh r)), x.2)
def par3K3 (i j l : Nat) (env : En) (a b : D) (x : Option (D × List D)) : Option (Fl × En × List D) := x.bind fun z => some (.nx, ((env.set i (some (.sh a))).set j (some (.sh b))).set l (some (.sh z.1)), z.2)
def par3K2 (i j l : Nat) (h : XM) (R : RC) (env : En) (a : D) (x : Option (D × List D)) : Option (Fl × En × List D) := x.bind fun y => par3K3 i j l env a y.1 (h R env y.2)
def par3K1 (i j l : Nat) (g h : XM) (R : RC) (env : En) (x : Option (D × List D)) : Option (Fl × En × List D) := x.bind fun x => par3K2 i j l h R env x.1 (g R env x.2)
def parK2 (i j : Nat) (env : En) (a : SV) (x : Option (SV × List D)) : Option (Fl × En × List D) := x.bind fun y => if i < env.length ∧ j < env.length ∧ i ≠ j then some (.nx, (env.set i (some a)).set j (some y.1), y.2) else none
def parK1 (i j : Nat) (g : RM) (R : RC) (env : En) (x : Option (SV × List D)) : Option (Fl × En × List D) := x.bind fun x => parK2 i j env x.1 (g R env x.2)
def vshK (x : Option (D × List D)) : Option (SV × List D) := x.map fun x => (.sh x.1, x.2)
def runK (x : Option (Fl × En × List D)) : Option (D × List D) := x.bind fun r => match r.1 with
  | .ret d => some (d, r.2.2)
  | .nx => some (.non, r.2.2)
  | _ => none
def compK (t : Tg) (vs : List Nat) (tt : TM) (f : XM) (R : RC) (env : En) (x : Option (List D × List D)) : Option (List D × List D) := if vs.all (notOwn env) && t.slots.all (fun i => decide (i ∈ vs)) then x.bind fun x => if x.1.length ≤ sizeLine then compL t (tt R) (f R) x.1 (wipeE env vs) x.2 else none else none

/-! ### steps -/
theorem v_c : xC d R env S = some (d, S) := rfl
theorem v_var : xVar i R env S = varK (env[i]?) S := by
  unfold xVar varK
  split <;> rename_i h <;> simp [h]
theorem v_varK : varK (some (some (.sh d))) S = some (d, S) := rfl
theorem v_bin : xBin o f g R env S = binK1 o g R env (f R env S) := rfl
theorem v_binK1 : binK1 o g R env (some (a, S)) = binK2 o a (g R env S) := rfl
theorem v_binK2 : binK2 o a (some (b, S)) = pairK (o a b) S := by
  unfold binK2 pairK
  cases h : o a b <;> simp [h]
theorem v_pairK : pairK (some d) S = some (d, S) := rfl
theorem v_un {o : D → Option D} : xUn o f R env S = unK o (f R env S) := rfl
theorem v_unK {o : D → Option D} : unK o (some (a, S)) = pairK (o a) S := by
  unfold unK pairK
  cases h : o a <;> simp [h]
theorem v_app {o : List D → Option D} : xApp o as R env S = appK o (as R env S) := rfl
theorem v_appK {o : List D → Option D} : appK o (some (ds, S)) = pairK (o ds) S := by
  unfold appK pairK
  cases h : o ds <;> simp [h]
theorem v_call {x : Str} : xCall x as R env S = callK x R (as R env S) := rfl
theorem v_callK {x : Str} : callK x R (some (ds, S)) = R x ds S := rfl
theorem v_nil : aNil R env S = some ([], S) := rfl
theorem v_cons : aCons f as R env S = consK1 as R env (f R env S) := rfl
theorem v_consK1 : consK1 as R env (some (a, S)) = consK2 a (as R env S) := rfl
theorem v_consK2 : consK2 a (some (ds, S)) = some (a :: ds, S) := rfl
theorem sz1000 {n : Nat} (h : n ≤ 1000) : n ≤ sizeLine := Nat.le_trans h (by decide)
theorem v_tup : xTup as R env S = tupK (as R env S) := rfl
theorem v_tupK (h : ds.length ≤ 1000) : tupK (some (ds, S)) = some (.tup ds, S) := if_pos (sz1000 h)
theorem v_lst {l : LM} : xLst l R env S = lstK (l R env S) := rfl
theorem v_lstK : lstK (some (ds, S)) = some (.lst ds, S) := rfl
theorem v_disp : lDisp as R env S = dispK (as R env S) := rfl
theorem v_dispK (h : ds.length ≤ 1000) : dispK (some (ds, S)) = some (ds, S) := if_pos (sz1000 h)
theorem v_ix : xIx f g R env S = ixK1 g R env (f R env S) := rfl
theorem v_ixK1 : ixK1 g R env (some (a, S)) = ixK2 a (g R env S) := rfl
theorem v_ixP {i : Int} : ixK2 .pool (some (.int i, S)) = pairK (atI S i) S := by
  unfold ixK2 pairK
  cases h : atI S i <;> simp [h]
theorem v_ixT {i : Int} : ixK2 (.tup ds) (some (.int i, S)) = pairK (atI ds i) S := by
  show (atI ds i).map _ = _
  unfold pairK
  cases h : atI ds i <;> simp [h]
theorem v_ixL {i : Int} : ixK2 (.lst ds) (some (.int i, S)) = pairK (atI ds i) S := by
  show (atI ds i).map _ = _
  unfold pairK
  cases h : atI ds i <;> simp [h]
theorem at0 {α : Type} {x : α} {l : List α} : atI (x :: l) 0 = some x := by
  unfold atI ixN
  simp
theorem at1 {α : Type} {x y : α} {l : List α} : atI (x :: y :: l) 1 = some y := by
  unfold atI ixN
  simp
  rw [if_pos (by omega)]
  rfl
theorem at2 {α : Type} {x y z : α} {l : List α} : atI (x :: y :: z :: l) 2 = some z := by
  unfold atI ixN
  simp
  rw [if_pos (by omega)]
  rfl
theorem at3 {α : Type} {x y z w : α} {l : List α} : atI (x :: y :: z :: w :: l) 3 = some w := by
  unfold atI ixN
  simp
  rw [if_pos (by omega)]
  rfl
theorem at4 {α : Type} {x y z w v : α} {l : List α} : atI (x :: y :: z :: w :: v :: l) 4 = some v := by
  unfold atI ixN
  simp
  rw [if_pos (by omega)]
  rfl
theorem v_bl : mBl f R env S = blK (f R env S) := rfl
theorem v_blK {b : Bool} : blK (some (.bl b, S)) = some (b, S) := rfl
theorem v_tru : mTru f R env S = truK (f R env S) := rfl
theorem v_truK {b : Bool} : truK (some (.bl b, S)) = some (b, S) := rfl
theorem v_truN : truK (some (.non, S)) = some (false, S) := rfl
theorem v_mnot : mNot t R env S = notK (t R env S) := rfl
theorem v_notK {b : Bool} : notK (some (b, S)) = some (!b, S) := rfl
theorem v_mand : mAnd t u R env S = andK u R env (t R env S) := rfl
theorem v_andT : andK u R env (some (true, S)) = u R env S := rfl
theorem v_andF : andK u R env (some (false, S)) = some (false, S) := rfl
theorem v_mor : mOr t u R env S = orK u R env (t R env S) := rfl
theorem v_orT : orK u R env (some (true, S)) = some (true, S) := rfl
theorem v_orF : orK u R env (some (false, S)) = u R env S := rfl
theorem v_yes : mYes R env S = some (true, S) := rfl
theorem v_xand : xAnd f g R env S = xandK g R env (f R env S) := rfl
theorem v_xandT : xandK g R env (some (.bl true, S)) = g R env S := rfl
theorem v_xandF : xandK g R env (some (.bl false, S)) = some (.bl false, S) := rfl
theorem v_xor : xOr f g R env S = xorK g R env (f R env S) := rfl
theorem v_xorT : xorK g R env (some (.bl true, S)) = some (.bl true, S) := rfl
theorem v_xorF : xorK g R env (some (.bl false, S)) = g R env S := rfl
theorem v_xnot : xNot f R env S = xnotK (f R env S) := rfl
theorem v_xnotK {b : Bool} : xnotK (some (.bl b, S)) = some (.bl (!b), S) := rfl
theorem v_xif : xIf t f g R env S = xifK f g R env (t R env S) := rfl
theorem v_xifT : xifK f g R env (some (true, S)) = f R env S := rfl
theorem v_xifF : xifK f g R env (some (false, S)) = g R env S := rfl
theorem v_ch : xChain o o' f g h R env S = chK1 o o' g h R env (f R env S) := by
  unfold xChain chK1 chK2 chK3 chK4
  rfl
theorem v_chK1 : chK1 o o' g h R env (some (a, S)) = chK2 o o' h R env a (g R env S) := rfl
theorem v_chK2 : chK2 o o' h R env a (some (b, S)) = chK3 o' h R env b S (o a b) := rfl
theorem v_chT : chK3 o' h R env b S (some (.bl true)) = chK4 o' b (h R env S) := rfl
theorem v_chF : chK3 o' h R env b S (some (.bl false)) = some (.bl false, S) := rfl
theorem v_chK4 : chK4 o' b (some (d, S)) = pairK (o' b d) S := by
  unfold chK4 pairK
  cases h : o' b d <;> simp [h]
theorem v_sli {lo hi : OM} : xSli f lo hi R env S = sliK1 lo hi R env (f R env S) := rfl
theorem v_sliK1 {lo hi : OM} : sliK1 lo hi R env (some (a, S)) = sliK2 hi R env a (lo R env S) := rfl
theorem v_sliK2 {hi : OM} {l : Option Int} : sliK2 hi R env a (some (l, S)) = sliK3 a l (hi R env S) := rfl
theorem v_sliT {l h : Option Int} : sliK3 (.tup ds) l (some (h, S)) = some (.tup (cutD ds l h), S) := rfl
theorem v_sliL {l h : Option Int} : sliK3 (.lst ds) l (some (h, S)) = some (.lst (cutD ds l h), S) := rfl
theorem v_onone : oNone R env S = some (none, S) := rfl
theorem v_osome : oSome f R env S = osoK (f R env S) := rfl
theorem v_osoK {i : Int} : osoK (some (.int i, S)) = some (some i, S) := rfl
theorem v_iof : iOf f R env S = iofK (f R env S) := rfl
theorem v_iofT : iofK (some (.tup ds, S)) = some (ds, S) := rfl
theorem v_iofL : iofK (some (.lst ds, S)) = some (ds, S) := rfl
theorem v_iarg {o : List D → Option (List D)} : iArg o as R env S = iargK o (as R env S) := rfl
theorem rng1_of {n : Int} (h0 : -(2 ^ 62) ≤ n) (h : n < 2 ^ 62) : rng1 [.int n] = some (irs 0 n.toNat) := if_pos (decide_eq_true ⟨h0, h⟩)
theorem v_iargK {o : List D → Option (List D)} {es : List D} (h : o ds = some es) : iargK o (some (ds, S)) = some (es, S) := by
  unfold iargK
  simp [h]
theorem v_snil : sNil R env S = some (.nx, env, S) := rfl
theorem v_seq : sSeq p q R env S = seqK q R (p R env S) := rfl
theorem v_seqN : seqK q R (some (.nx, env, S)) = q R env S := rfl
theorem v_seqR : seqK q R (some (.ret d, env, S)) = some (.ret d, env, S) := rfl
theorem v_seqB : seqK q R (some (.bk, env, S)) = some (.bk, env, S) := rfl
theorem v_seqC : seqK q R (some (.ct, env, S)) = some (.ct, env, S) := rfl
theorem v_sif : sIf t p q R env S = ifK p q R env (t R env S) := rfl
theorem v_ifT : ifK p q R env (some (true, S)) = p R env S := rfl
theorem v_ifF : ifK p q R env (some (false, S)) = q R env S := rfl
theorem v_ret : sRet f R env S = retK env (f R env S) := rfl
theorem v_retK : retK env (some (d, S)) = some (.ret d, env, S) := rfl
theorem v_asg {t : Tg} : sAsg t f R env S = asgK t env (f R env S) := rfl
theorem v_asgN : asgK (.name i) env (some (d, S)) = some (.nx, env.set i (some (.sh d)), S) := rfl
theorem v_asgT {is : List Nat} (h : ds.length = is.length) : asgK (.tup is) env (some (.tup ds, S)) = some (.nx, putAll is ds env, S) := by
  unfold asgK putT
  simp [h]
theorem v_put0 {env : En} : putAll [] [] env = env := rfl
theorem v_put1 {is : List Nat} : putAll (i :: is) (d :: ds) env = putAll is ds (env.set i (some (.sh d))) := rfl
theorem v_bk : sBk R env S = some (.bk, env, S) := rfl
theorem v_ct : sCt R env S = some (.ct, env, S) := rfl
theorem v_pool {fo fi fv : XM} : sPool fo fi fv R env S = poolK1 fo fi R env (fv R env S) := by
  unfold sPool poolK1 poolK2 poolK3
  rfl
theorem v_poolK1 {fo fi : XM} : poolK1 fo fi R env (some (a, S)) = poolK2 fi R env a (fo R env S) := rfl
theorem v_poolK2 {fi : XM} : poolK2 fi R env a (some (b, S)) = poolK3 env a b (fi R env S) := rfl
theorem v_pool1 {x0 x1 x2 x3 x4 : D} : poolK3 env a .pool (some (.int 1, [x0, x1, x2, x3, x4])) = some (.nx, env, [x0, a, x2, x3, x4]) := by rfl
theorem v_pool2 {x0 x1 x2 x3 x4 : D} : poolK3 env a .pool (some (.int 2, [x0, x1, x2, x3, x4])) = some (.nx, env, [x0, x1, a, x3, x4]) := by rfl
theorem v_pool3 {x0 x1 x2 x3 x4 : D} : poolK3 env a .pool (some (.int 3, [x0, x1, x2, x3, x4])) = some (.nx, env, [x0, x1, x2, a, x4]) := by rfl
theorem v_for {it : IM} {t : Tg} : sFor it t q R env S = forK t q R env (it R env S) := rfl
theorem v_forK {t : Tg} : forK t q R env (some (ds, S)) = forL t (q R) ds env S := rfl
theorem v_for0 {t : Tg} {b : En → List D → Option (Fl × En × List D)} : forL t b [] env S = some (.nx, env, S) := rfl
theorem v_for1 {t : Tg} {b : En → List D → Option (Fl × En × List D)} : forL t b (d :: ds) env S = forK1 t b ds S (putT t d env) := rfl
theorem v_putN : putT (.name i) d env = some (env.set i (some (.sh d))) := rfl
theorem v_forK1 {t : Tg} {b : En → List D → Option (Fl × En × List D)} : forK1 t b ds S (some e1) = forK2 t b ds (b e1 S) := rfl
theorem v_forN {t : Tg} {b : En → List D → Option (Fl × En × List D)} : forK2 t b ds (some (.nx, e1, S)) = forL t b ds e1 S := rfl
theorem v_forC {t : Tg} {b : En → List D → Option (Fl × En × List D)} : forK2 t b ds (some (.ct, e1, S)) = forL t b ds e1 S := rfl
theorem v_forB {t : Tg} {b : En → List D → Option (Fl × En × List D)} : forK2 t b ds (some (.bk, e1, S)) = some (.nx, e1, S) := rfl
theorem v_forR {t : Tg} {b : En → List D → Option (Fl × En × List D)} : forK2 t b ds (some (.ret d, e1, S)) = some (.ret d, e1, S) := rfl
theorem v_par3 {i j l : Nat} : sPar3 i j l f g h R env S = par3K1 i j l g h R env (f R env S) := rfl
theorem v_par3K1 {i j l : Nat} : par3K1 i j l g h R env (some (a, S)) = par3K2 i j l h R env a (g R env S) := rfl
theorem v_par3K2 {i j l : Nat} : par3K2 i j l h R env a (some (b, S)) = par3K3 i j l env a b (h R env S) := rfl
theorem v_par3K3 {i j l : Nat} : par3K3 i j l env a b (some (d, S)) = some (.nx, ((env.set i (some (.sh a))).set j (some (.sh b))).set l (some (.sh d)), S) := rfl
theorem v_par {f g : RM} : sPar i j f g R env S = parK1 i j g R env (f R env S) := rfl
theorem v_parK1 {g : RM} {x : SV} : parK1 i j g R env (some (x, S)) = parK2 i j env x (g R env S) := rfl
theorem v_parK2 {x y : SV} (h : i < env.length ∧ j < env.length ∧ i ≠ j) : parK2 i j env x (some (y, S)) = some (.nx, (env.set i (some x)).set j (some y), S) := if_pos h
theorem v_vsh : vSh f R env S = vshK (f R env S) := rfl
theorem v_vshK : vshK (some (d, S)) = some (.sh d, S) := rfl
theorem v_run {n : Nat} {f : En → List D → Option (Fl × En × List D)} : runB n f ds S = runK (f (startE n ds) S) := rfl
theorem v_runR : runK (some (.ret d, env, S)) = some (d, S) := rfl
theorem v_runN : runK (some (.nx, env, S)) = some (.non, S) := rfl
theorem v_comp {it : IM} {t : Tg} {vs : List Nat} : lComp it t vs u f R env S = compK t vs u f R env (it R env S) := by
  unfold lComp compK
  split
  · rfl
  · rfl
theorem v_compK {t : Tg} {vs : List Nat} (h1 : (vs.all (notOwn env) && t.slots.all (fun i => decide (i ∈ vs))) = true) (h2 : ds.length ≤ 1000) : compK t vs u f R env (some (ds, S)) = compL t (u R) (f R) ds (wipeE env vs) S := by
  unfold compK
  rw [if_pos h1]
  exact if_pos (sz1000 h2)
/-- a comprehension that takes every item -/
theorem comp_map {t : Tg} {tt : En → List D → Option (Bool × List D)} {f : En → List D → Option (D × List D)} (G : D → D) : ∀ (ds : List D), (∀ d ∈ ds, ∃ e, putT t d env = some e ∧ tt e S = some (true, S) ∧ f e S = some (G d, S)) → compL t tt f ds env S = some (ds.map G, S)
  | [], _ => rfl
  | d :: ds, h => by
    obtain ⟨e, h1, h2, h3⟩ := h d List.mem_cons_self
    have ih := comp_map G ds fun x hx => h x (List.mem_cons_of_mem _ hx)
    show (putT t d env).bind _ = _
    simp only [h1, h2, h3, ih, Option.bind_some, Option.map_some, if_true]
    rfl
theorem comp_mapT {α : Type} {t : Tg} {tt : En → List D → Option (Bool × List D)} {f : En → List D → Option (D × List D)} (T G : α → D) : ∀ (l : List α), (∀ x ∈ l, ∃ e, putT t (T x) env = some e ∧ tt e S = some (true, S) ∧ f e S = some (G x, S)) → compL t tt f (l.map T) env S = some (l.map G, S)
  | [], _ => rfl
  | d :: ds, h => by
    obtain ⟨e, h1, h2, h3⟩ := h d List.mem_cons_self
    have ih := comp_mapT T G ds fun x hx => h x (List.mem_cons_of_mem _ hx)
    show (putT t (T d) env).bind _ = _
    simp only [h1, h2, h3, Option.bind_some, Option.map_some, if_true]
    rw [ih]
    rfl
theorem comp_filterT {α : Type} {t : Tg} {tt : En → List D → Option (Bool × List D)} {f : En → List D → Option (D × List D)} (T G : α → D) (P : α → Bool) : ∀ (l : List α), (∀ x ∈ l, ∃ e, putT t (T x) env = some e ∧ tt e S = some (P x, S) ∧ (P x = true → f e S = some (G x, S))) → compL t tt f (l.map T) env S = some ((l.filter P).map G, S)
  | [], _ => rfl
  | d :: ds, h => by
    obtain ⟨e, h1, h2, h3⟩ := h d List.mem_cons_self
    have ih := comp_filterT T G P ds fun x hx => h x (List.mem_cons_of_mem _ hx)
    show (putT t (T d) env).bind _ = _
    by_cases hp : P d = true
    · have h3' := h3 hp
      rw [List.filter_cons_of_pos hp]
      simp only [h1, h2, h3', hp, Option.bind_some, Option.map_some, if_true]
      rw [ih]
      rfl
    · have hp' : P d = false := by simpa using hp
      rw [List.filter_cons_of_neg hp]
      simp only [h1, h2, hp', Option.bind_some]
      exact ih
/-- .. that lets the pool change: every item gives what P says -/
theorem comp_any {α : Type} {t : Tg} {tt : En → List D → Option (Bool × List D)} {f : En → List D → Option (D × List D)} (T : α → D) (I : List D → Prop) (Q : D → Prop) : ∀ (l : List α) (S : List D), I S → (∀ x ∈ l, ∀ S, I S → ∃ e, putT t (T x) env = some e ∧ tt e S = some (true, S) ∧ ∃ d S', f e S = some (d, S') ∧ I S' ∧ Q d) →
    ∃ ds S', compL t tt f (l.map T) env S = some (ds, S') ∧ I S' ∧ ds.length = l.length ∧ ∀ d ∈ ds, Q d
  | [], S, hI, _ => ⟨[], S, rfl, hI, rfl, fun _ h => by cases h⟩
  | x :: xs, S, hI, h => by
    obtain ⟨e, h1, h2, d, S1, h3, h4, h5⟩ := h x List.mem_cons_self S hI
    obtain ⟨ds, S2, g1, g2, g3, g4⟩ := comp_any T I Q xs S1 h4 fun y hy => h y (List.mem_cons_of_mem _ hy)
    refine ⟨d :: ds, S2, ?_, g2, by simp [g3], fun z hz => ?_⟩
    · show (putT t (T x) env).bind _ = _
      simp only [h1, h2, h3, Option.bind_some, Option.map_some, if_true]
      rw [g1]
      rfl
    · rcases List.mem_cons.mp hz with rfl | hz
      · exact h5
      · exact g4 z hz
/-- .. that takes some -/
theorem comp_filter {t : Tg} {tt : En → List D → Option (Bool × List D)} {f : En → List D → Option (D × List D)} (G : D → D) (P : D → Bool) : ∀ (ds : List D), (∀ d ∈ ds, ∃ e, putT t d env = some e ∧ tt e S = some (P d, S) ∧ (P d = true → f e S = some (G d, S))) → compL t tt f ds env S = some ((ds.filter P).map G, S)
  | [], _ => rfl
  | d :: ds, h => by
    obtain ⟨e, h1, h2, h3⟩ := h d List.mem_cons_self
    have ih := comp_filter G P ds fun x hx => h x (List.mem_cons_of_mem _ hx)
    show (putT t d env).bind _ = _
    by_cases hp : P d = true
    · have h3' := h3 hp
      simp only [h1, h2, h3', ih, hp, Option.bind_some, Option.map_some, if_true, List.filter_cons_of_pos]
      rfl
    · have hp' : P d = false := by simpa using hp
      rw [List.filter_cons_of_neg hp]
      simp only [h1, h2, ih, hp', Option.bind_some]
      rfl
end
theorem mulI_r {i j : Int} (h : -(2 ^ 64) < j ∧ j < 2 ^ 64) : mulI i j = some (i * j) := if_pos (.inr h)
theorem modI_ne {i j : Int} (h : j ≠ 0) : modI i j = some (i.fmod j) := if_pos h
theorem divI_of {i j : Int} (h : j ≠ 0) (h2 : j.natAbs < 1073741824) : divI i j = some (i.fdiv j) := if_pos ⟨h, h2⟩
theorem o_add {i j : Int} : addD (.int i) (.int j) = some (.int (i + j)) := rfl
theorem o_sub {i j : Int} : subD (.int i) (.int j) = some (.int (i - j)) := rfl
theorem o_mul {i j : Int} (h : -(2 ^ 64) < j ∧ j < 2 ^ 64) : mulD (.int i) (.int j) = some (.int (i * j)) := by
  show (mulI i j).map _ = _
  rw [mulI_r h]
  rfl
theorem o_mod {i j : Int} (h : j ≠ 0) : modD (.int i) (.int j) = some (.int (i.fmod j)) := by
  show (modI i j).map _ = _
  rw [modI_ne h]
  rfl
theorem o_div {i j : Int} (h : j ≠ 0) (h2 : j.natAbs < 1073741824) : divD (.int i) (.int j) = some (.int (i.fdiv j)) := by
  show (divI i j).map _ = _
  rw [divI_of h h2]
  rfl
theorem o_lt {i j : Int} : ltD (.int i) (.int j) = some (.bl (decide (i < j))) := rfl
theorem o_le {i j : Int} : leD (.int i) (.int j) = some (.bl (decide (i ≤ j))) := rfl
theorem o_gt {i j : Int} : gtD (.int i) (.int j) = some (.bl (decide (j < i))) := rfl
theorem o_ge {i j : Int} : geD (.int i) (.int j) = some (.bl (decide (j ≤ i))) := rfl
theorem o_int {i : Int} : intOf [.int i] = some (.int i) := rfl
theorem o_neg {i : Int} : negD (.int i) = some (.int (-i)) := rfl
theorem o_lenL {ds : List D} : lenD [.lst ds] = some (.int ds.length) := rfl
theorem o_lenT {ds : List D} : lenD [.tup ds] = some (.int ds.length) := rfl
theorem o_eqI {i j : Int} : eqD (.int i) (.int j) = some (.bl (decide (i = j))) := rfl
theorem o_eqS {i j : Str} : eqD (.str i) (.str j) = some (.bl (decide (i = j))) := rfl
theorem o_eqB {i j : Bool} : eqD (.bl i) (.bl j) = some (.bl (decide (i = j))) := rfl
theorem o_neI {i j : Int} : neD (.int i) (.int j) = some (.bl (!decide (i = j))) := rfl
theorem o_neS {i j : Str} : neD (.str i) (.str j) = some (.bl (!decide (i = j))) := rfl
theorem o_neB {i j : Bool} : neD (.bl i) (.bl j) = some (.bl (!decide (i = j))) := rfl
theorem o_tupL {ds : List D} : tupOf [.lst ds] = some (.tup ds) := rfl
theorem o_tupT {ds : List D} : tupOf [.tup ds] = some (.tup ds) := rfl
theorem o_addL {xs ys : List D} (h : xs.length + ys.length ≤ 1000) : addD (.lst xs) (.lst ys) = some (.lst (xs ++ ys)) := if_pos (sz1000 h)
theorem o_addT {xs ys : List D} (h : xs.length + ys.length ≤ 1000) : addD (.tup xs) (.tup ys) = some (.tup (xs ++ ys)) := if_pos (sz1000 h)
theorem w_t1_true : inD (.str "true") (.tup [.str "true", .str "is", .str "same"]) = some (.bl true) := rfl
theorem w_t1_is : inD (.str "is") (.tup [.str "true", .str "is", .str "same"]) = some (.bl true) := rfl
theorem w_t1_same : inD (.str "same") (.tup [.str "true", .str "is", .str "same"]) = some (.bl true) := rfl
theorem w_t1_not : inD (.str "not") (.tup [.str "true", .str "is", .str "same"]) = some (.bl false) := rfl
theorem w_t1_both : inD (.str "both") (.tup [.str "true", .str "is", .str "same"]) = some (.bl false) := rfl
theorem w_t1_either : inD (.str "either") (.tup [.str "true", .str "is", .str "same"]) = some (.bl false) := rfl
theorem w_t1_some : inD (.str "some") (.tup [.str "true", .str "is", .str "same"]) = some (.bl false) := rfl
theorem w_t1_each : inD (.str "each") (.tup [.str "true", .str "is", .str "same"]) = some (.bl false) := rfl
theorem w_t1_many : inD (.str "many") (.tup [.str "true", .str "is", .str "same"]) = some (.bl false) := rfl
theorem w_t2_true : inD (.str "true") (.tup [.str "not", .str "both", .str "either"]) = some (.bl false) := rfl
theorem w_t2_is : inD (.str "is") (.tup [.str "not", .str "both", .str "either"]) = some (.bl false) := rfl
theorem w_t2_same : inD (.str "same") (.tup [.str "not", .str "both", .str "either"]) = some (.bl false) := rfl
theorem w_t2_not : inD (.str "not") (.tup [.str "not", .str "both", .str "either"]) = some (.bl true) := rfl
theorem w_t2_both : inD (.str "both") (.tup [.str "not", .str "both", .str "either"]) = some (.bl true) := rfl
theorem w_t2_either : inD (.str "either") (.tup [.str "not", .str "both", .str "either"]) = some (.bl true) := rfl
theorem w_t2_some : inD (.str "some") (.tup [.str "not", .str "both", .str "either"]) = some (.bl false) := rfl
theorem w_t2_each : inD (.str "each") (.tup [.str "not", .str "both", .str "either"]) = some (.bl false) := rfl
theorem w_t2_many : inD (.str "many") (.tup [.str "not", .str "both", .str "either"]) = some (.bl false) := rfl
theorem w_t3_true : inD (.str "true") (.tup [.str "some", .str "each"]) = some (.bl false) := rfl
theorem w_t3_is : inD (.str "is") (.tup [.str "some", .str "each"]) = some (.bl false) := rfl
theorem w_t3_same : inD (.str "same") (.tup [.str "some", .str "each"]) = some (.bl false) := rfl
theorem w_t3_not : inD (.str "not") (.tup [.str "some", .str "each"]) = some (.bl false) := rfl
theorem w_t3_both : inD (.str "both") (.tup [.str "some", .str "each"]) = some (.bl false) := rfl
theorem w_t3_either : inD (.str "either") (.tup [.str "some", .str "each"]) = some (.bl false) := rfl
theorem w_t3_some : inD (.str "some") (.tup [.str "some", .str "each"]) = some (.bl true) := rfl
theorem w_t3_each : inD (.str "each") (.tup [.str "some", .str "each"]) = some (.bl true) := rfl
theorem w_t3_many : inD (.str "many") (.tup [.str "some", .str "each"]) = some (.bl false) := rfl
theorem w_t4_true : inD (.str "true") (.tup [.str "both", .str "either"]) = some (.bl false) := rfl
theorem w_t4_is : inD (.str "is") (.tup [.str "both", .str "either"]) = some (.bl false) := rfl
theorem w_t4_same : inD (.str "same") (.tup [.str "both", .str "either"]) = some (.bl false) := rfl
theorem w_t4_not : inD (.str "not") (.tup [.str "both", .str "either"]) = some (.bl false) := rfl
theorem w_t4_both : inD (.str "both") (.tup [.str "both", .str "either"]) = some (.bl true) := rfl
theorem w_t4_either : inD (.str "either") (.tup [.str "both", .str "either"]) = some (.bl true) := rfl
theorem w_t4_some : inD (.str "some") (.tup [.str "both", .str "either"]) = some (.bl false) := rfl
theorem w_t4_each : inD (.str "each") (.tup [.str "both", .str "either"]) = some (.bl false) := rfl
theorem w_t4_many : inD (.str "many") (.tup [.str "both", .str "either"]) = some (.bl false) := rfl
theorem w_t5_true : inD (.str "true") (.tup [.str "is", .str "same"]) = some (.bl false) := rfl
theorem w_t5_is : inD (.str "is") (.tup [.str "is", .str "same"]) = some (.bl true) := rfl
theorem w_t5_same : inD (.str "same") (.tup [.str "is", .str "same"]) = some (.bl true) := rfl
theorem w_t5_not : inD (.str "not") (.tup [.str "is", .str "same"]) = some (.bl false) := rfl
theorem w_t5_both : inD (.str "both") (.tup [.str "is", .str "same"]) = some (.bl false) := rfl
theorem w_t5_either : inD (.str "either") (.tup [.str "is", .str "same"]) = some (.bl false) := rfl
theorem w_t5_some : inD (.str "some") (.tup [.str "is", .str "same"]) = some (.bl false) := rfl
theorem w_t5_each : inD (.str "each") (.tup [.str "is", .str "same"]) = some (.bl false) := rfl
theorem w_t5_many : inD (.str "many") (.tup [.str "is", .str "same"]) = some (.bl false) := rfl
theorem w_q_true_true : ((("true" : Str) = ("true" : Str)) = True) := by simp
theorem w_q_true_is : ((("true" : Str) = ("is" : Str)) = False) := by exact eq_false (by decide)
theorem w_q_true_same : ((("true" : Str) = ("same" : Str)) = False) := by exact eq_false (by decide)
theorem w_q_true_not : ((("true" : Str) = ("not" : Str)) = False) := by exact eq_false (by decide)
theorem w_q_true_both : ((("true" : Str) = ("both" : Str)) = False) := by exact eq_false (by decide)
theorem w_q_true_either : ((("true" : Str) = ("either" : Str)) = False) := by exact eq_false (by decide)
theorem w_q_true_some : ((("true" : Str) = ("some" : Str)) = False) := by exact eq_false (by decide)
theorem w_q_true_each : ((("true" : Str) = ("each" : Str)) = False) := by exact eq_false (by decide)
theorem w_q_true_many : ((("true" : Str) = ("many" : Str)) = False) := by exact eq_false (by decide)
theorem w_q_is_true : ((("is" : Str) = ("true" : Str)) = False) := by exact eq_false (by decide)
theorem w_q_is_is : ((("is" : Str) = ("is" : Str)) = True) := by simp
theorem w_q_is_same : ((("is" : Str) = ("same" : Str)) = False) := by exact eq_false (by decide)
theorem w_q_is_not : ((("is" : Str) = ("not" : Str)) = False) := by exact eq_false (by decide)
theorem w_q_is_both : ((("is" : Str) = ("both" : Str)) = False) := by exact eq_false (by decide)
theorem w_q_is_either : ((("is" : Str) = ("either" : Str)) = False) := by exact eq_false (by decide)
theorem w_q_is_some : ((("is" : Str) = ("some" : Str)) = False) := by exact eq_false (by decide)
theorem w_q_is_each : ((("is" : Str) = ("each" : Str)) = False) := by exact eq_false (by decide)
theorem w_q_is_many : ((("is" : Str) = ("many" : Str)) = False) := by exact eq_false (by decide)
theorem w_q_same_true : ((("same" : Str) = ("true" : Str)) = False) := by exact eq_false (by decide)
theorem w_q_same_is : ((("same" : Str) = ("is" : Str)) = False) := by exact eq_false (by decide)
theorem w_q_same_same : ((("same" : Str) = ("same" : Str)) = True) := by simp
theorem w_q_same_not : ((("same" : Str) = ("not" : Str)) = False) := by exact eq_false (by decide)
theorem w_q_same_both : ((("same" : Str) = ("both" : Str)) = False) := by exact eq_false (by decide)
theorem w_q_same_either : ((("same" : Str) = ("either" : Str)) = False) := by exact eq_false (by decide)
theorem w_q_same_some : ((("same" : Str) = ("some" : Str)) = False) := by exact eq_false (by decide)
theorem w_q_same_each : ((("same" : Str) = ("each" : Str)) = False) := by exact eq_false (by decide)
theorem w_q_same_many : ((("same" : Str) = ("many" : Str)) = False) := by exact eq_false (by decide)
theorem w_q_not_true : ((("not" : Str) = ("true" : Str)) = False) := by exact eq_false (by decide)
theorem w_q_not_is : ((("not" : Str) = ("is" : Str)) = False) := by exact eq_false (by decide)
theorem w_q_not_same : ((("not" : Str) = ("same" : Str)) = False) := by exact eq_false (by decide)
theorem w_q_not_not : ((("not" : Str) = ("not" : Str)) = True) := by simp
theorem w_q_not_both : ((("not" : Str) = ("both" : Str)) = False) := by exact eq_false (by decide)
theorem w_q_not_either : ((("not" : Str) = ("either" : Str)) = False) := by exact eq_false (by decide)
theorem w_q_not_some : ((("not" : Str) = ("some" : Str)) = False) := by exact eq_false (by decide)
theorem w_q_not_each : ((("not" : Str) = ("each" : Str)) = False) := by exact eq_false (by decide)
theorem w_q_not_many : ((("not" : Str) = ("many" : Str)) = False) := by exact eq_false (by decide)
theorem w_q_both_true : ((("both" : Str) = ("true" : Str)) = False) := by exact eq_false (by decide)
theorem w_q_both_is : ((("both" : Str) = ("is" : Str)) = False) := by exact eq_false (by decide)
theorem w_q_both_same : ((("both" : Str) = ("same" : Str)) = False) := by exact eq_false (by decide)
theorem w_q_both_not : ((("both" : Str) = ("not" : Str)) = False) := by exact eq_false (by decide)
theorem w_q_both_both : ((("both" : Str) = ("both" : Str)) = True) := by simp
theorem w_q_both_either : ((("both" : Str) = ("either" : Str)) = False) := by exact eq_false (by decide)
theorem w_q_both_some : ((("both" : Str) = ("some" : Str)) = False) := by exact eq_false (by decide)
theorem w_q_both_each : ((("both" : Str) = ("each" : Str)) = False) := by exact eq_false (by decide)
theorem w_q_both_many : ((("both" : Str) = ("many" : Str)) = False) := by exact eq_false (by decide)
theorem w_q_either_true : ((("either" : Str) = ("true" : Str)) = False) := by exact eq_false (by decide)
theorem w_q_either_is : ((("either" : Str) = ("is" : Str)) = False) := by exact eq_false (by decide)
theorem w_q_either_same : ((("either" : Str) = ("same" : Str)) = False) := by exact eq_false (by decide)
theorem w_q_either_not : ((("either" : Str) = ("not" : Str)) = False) := by exact eq_false (by decide)
theorem w_q_either_both : ((("either" : Str) = ("both" : Str)) = False) := by exact eq_false (by decide)
theorem w_q_either_either : ((("either" : Str) = ("either" : Str)) = True) := by simp
theorem w_q_either_some : ((("either" : Str) = ("some" : Str)) = False) := by exact eq_false (by decide)
theorem w_q_either_each : ((("either" : Str) = ("each" : Str)) = False) := by exact eq_false (by decide)
theorem w_q_either_many : ((("either" : Str) = ("many" : Str)) = False) := by exact eq_false (by decide)
theorem w_q_some_true : ((("some" : Str) = ("true" : Str)) = False) := by exact eq_false (by decide)
theorem w_q_some_is : ((("some" : Str) = ("is" : Str)) = False) := by exact eq_false (by decide)
theorem w_q_some_same : ((("some" : Str) = ("same" : Str)) = False) := by exact eq_false (by decide)
theorem w_q_some_not : ((("some" : Str) = ("not" : Str)) = False) := by exact eq_false (by decide)
theorem w_q_some_both : ((("some" : Str) = ("both" : Str)) = False) := by exact eq_false (by decide)
theorem w_q_some_either : ((("some" : Str) = ("either" : Str)) = False) := by exact eq_false (by decide)
theorem w_q_some_some : ((("some" : Str) = ("some" : Str)) = True) := by simp
theorem w_q_some_each : ((("some" : Str) = ("each" : Str)) = False) := by exact eq_false (by decide)
theorem w_q_some_many : ((("some" : Str) = ("many" : Str)) = False) := by exact eq_false (by decide)
theorem w_q_each_true : ((("each" : Str) = ("true" : Str)) = False) := by exact eq_false (by decide)
theorem w_q_each_is : ((("each" : Str) = ("is" : Str)) = False) := by exact eq_false (by decide)
theorem w_q_each_same : ((("each" : Str) = ("same" : Str)) = False) := by exact eq_false (by decide)
theorem w_q_each_not : ((("each" : Str) = ("not" : Str)) = False) := by exact eq_false (by decide)
theorem w_q_each_both : ((("each" : Str) = ("both" : Str)) = False) := by exact eq_false (by decide)
theorem w_q_each_either : ((("each" : Str) = ("either" : Str)) = False) := by exact eq_false (by decide)
theorem w_q_each_some : ((("each" : Str) = ("some" : Str)) = False) := by exact eq_false (by decide)
theorem w_q_each_each : ((("each" : Str) = ("each" : Str)) = True) := by simp
theorem w_q_each_many : ((("each" : Str) = ("many" : Str)) = False) := by exact eq_false (by decide)
theorem w_q_many_true : ((("many" : Str) = ("true" : Str)) = False) := by exact eq_false (by decide)
theorem w_q_many_is : ((("many" : Str) = ("is" : Str)) = False) := by exact eq_false (by decide)
theorem w_q_many_same : ((("many" : Str) = ("same" : Str)) = False) := by exact eq_false (by decide)
theorem w_q_many_not : ((("many" : Str) = ("not" : Str)) = False) := by exact eq_false (by decide)
theorem w_q_many_both : ((("many" : Str) = ("both" : Str)) = False) := by exact eq_false (by decide)
theorem w_q_many_either : ((("many" : Str) = ("either" : Str)) = False) := by exact eq_false (by decide)
theorem w_q_many_some : ((("many" : Str) = ("some" : Str)) = False) := by exact eq_false (by decide)
theorem w_q_many_each : ((("many" : Str) = ("each" : Str)) = False) := by exact eq_false (by decide)
theorem w_q_many_many : ((("many" : Str) = ("many" : Str)) = True) := by simp
theorem i_non_int  : isiD [.non, .ty "int"] = some (.bl false) := rfl
theorem i_non_str  : isiD [.non, .ty "str"] = some (.bl false) := rfl
theorem i_non_bool  : isiD [.non, .ty "bool"] = some (.bl false) := rfl
theorem i_non_tuple  : isiD [.non, .ty "tuple"] = some (.bl false) := rfl
theorem i_non_list  : isiD [.non, .ty "list"] = some (.bl false) := rfl
theorem n_non  : isND (.non) .non = some (.bl true) := rfl
theorem nn_non  : isNND (.non) .non = some (.bl false) := rfl
theorem i_bl_int {b : Bool} : isiD [.bl b, .ty "int"] = some (.bl true) := rfl
theorem i_bl_str {b : Bool} : isiD [.bl b, .ty "str"] = some (.bl false) := rfl
theorem i_bl_bool {b : Bool} : isiD [.bl b, .ty "bool"] = some (.bl true) := rfl
theorem i_bl_tuple {b : Bool} : isiD [.bl b, .ty "tuple"] = some (.bl false) := rfl
theorem i_bl_list {b : Bool} : isiD [.bl b, .ty "list"] = some (.bl false) := rfl
theorem n_bl {b : Bool} : isND (.bl b) .non = some (.bl false) := rfl
theorem nn_bl {b : Bool} : isNND (.bl b) .non = some (.bl true) := rfl
theorem i_int_int {i : Int} : isiD [.int i, .ty "int"] = some (.bl true) := rfl
theorem i_int_str {i : Int} : isiD [.int i, .ty "str"] = some (.bl false) := rfl
theorem i_int_bool {i : Int} : isiD [.int i, .ty "bool"] = some (.bl false) := rfl
theorem i_int_tuple {i : Int} : isiD [.int i, .ty "tuple"] = some (.bl false) := rfl
theorem i_int_list {i : Int} : isiD [.int i, .ty "list"] = some (.bl false) := rfl
theorem n_int {i : Int} : isND (.int i) .non = some (.bl false) := rfl
theorem nn_int {i : Int} : isNND (.int i) .non = some (.bl true) := rfl
theorem i_str_int {x : Str} : isiD [.str x, .ty "int"] = some (.bl false) := rfl
theorem i_str_str {x : Str} : isiD [.str x, .ty "str"] = some (.bl true) := rfl
theorem i_str_bool {x : Str} : isiD [.str x, .ty "bool"] = some (.bl false) := rfl
theorem i_str_tuple {x : Str} : isiD [.str x, .ty "tuple"] = some (.bl false) := rfl
theorem i_str_list {x : Str} : isiD [.str x, .ty "list"] = some (.bl false) := rfl
theorem n_str {x : Str} : isND (.str x) .non = some (.bl false) := rfl
theorem nn_str {x : Str} : isNND (.str x) .non = some (.bl true) := rfl
theorem i_tup_int {xs : List D} : isiD [.tup xs, .ty "int"] = some (.bl false) := rfl
theorem i_tup_str {xs : List D} : isiD [.tup xs, .ty "str"] = some (.bl false) := rfl
theorem i_tup_bool {xs : List D} : isiD [.tup xs, .ty "bool"] = some (.bl false) := rfl
theorem i_tup_tuple {xs : List D} : isiD [.tup xs, .ty "tuple"] = some (.bl true) := rfl
theorem i_tup_list {xs : List D} : isiD [.tup xs, .ty "list"] = some (.bl false) := rfl
theorem n_tup {xs : List D} : isND (.tup xs) .non = some (.bl false) := rfl
theorem nn_tup {xs : List D} : isNND (.tup xs) .non = some (.bl true) := rfl
theorem i_lst_int {xs : List D} : isiD [.lst xs, .ty "int"] = some (.bl false) := rfl
theorem i_lst_str {xs : List D} : isiD [.lst xs, .ty "str"] = some (.bl false) := rfl
theorem i_lst_bool {xs : List D} : isiD [.lst xs, .ty "bool"] = some (.bl false) := rfl
theorem i_lst_tuple {xs : List D} : isiD [.lst xs, .ty "tuple"] = some (.bl false) := rfl
theorem i_lst_list {xs : List D} : isiD [.lst xs, .ty "list"] = some (.bl true) := rfl
theorem n_lst {xs : List D} : isND (.lst xs) .non = some (.bl false) := rfl
theorem nn_lst {xs : List D} : isNND (.lst xs) .non = some (.bl true) := rfl
theorem i_dic_int {ks : List Key} {xs : List D} : isiD [.dic ks xs, .ty "int"] = some (.bl false) := rfl
theorem i_dic_str {ks : List Key} {xs : List D} : isiD [.dic ks xs, .ty "str"] = some (.bl false) := rfl
theorem i_dic_bool {ks : List Key} {xs : List D} : isiD [.dic ks xs, .ty "bool"] = some (.bl false) := rfl
theorem i_dic_tuple {ks : List Key} {xs : List D} : isiD [.dic ks xs, .ty "tuple"] = some (.bl false) := rfl
theorem i_dic_list {ks : List Key} {xs : List D} : isiD [.dic ks xs, .ty "list"] = some (.bl false) := rfl
theorem n_dic {ks : List Key} {xs : List D} : isND (.dic ks xs) .non = some (.bl false) := rfl
theorem nn_dic {ks : List Key} {xs : List D} : isNND (.dic ks xs) .non = some (.bl true) := rfl
end Ip

set_option maxHeartbeats 1000000
/-! IpVa: the later meanings reckoned, step by step. -/
namespace Ip
open PySem L2
section
variable {R : RC} {env e1 : En} {S S1 S2 : List D} {a b d : D} {ds es : List D} {f g h : XM} {as : AM} {t u : TM} {p q r : SM} {i j : Nat} {x y z : Option SV}
def putK1 (i : Nat) (env : En) (x : Option (SV × List D)) : Option (Fl × En × List D) := x.bind fun x => if i < env.length then some (.nx, env.set i (some x.1), x.2) else none
def ownLK (x : Option (List D × List D)) : Option (SV × List D) := x.map fun x => (.own x.1, x.2)
def lappK (g : List D → Option (List D)) (x : Option (List D × List D)) : Option (List D × List D) := x.bind fun x => (g x.1).map fun es => (es, x.2)
def laddK2 (a : D) (x : Option (D × List D)) : Option (List D × List D) := x.bind fun y => match a, y.1 with
  | .lst xs, .lst ys => if xs.length + ys.length ≤ sizeLine then some (xs ++ ys, y.2) else none
  | _, _ => none
def laddK1 (g : XM) (R : RC) (env : En) (x : Option (D × List D)) : Option (List D × List D) := x.bind fun x => laddK2 x.1 (g R env x.2)
def xoK (env : En) (x : Option (D × List D)) : Option (D × En × List D) := x.map fun x => (x.1, env, x.2)
def appO2 (i : Nat) (x : Option (D × En × List D)) : Option (Fl × En × List D) := x.bind fun x => match x.2.1[i]? with
    | some (some (.own ys)) => if ys.length < sizeLine then some (.nx, x.2.1.set i (some (.own (ys ++ [x.1]))), x.2.2) else none
    | _ => none
def appO1 (i : Nat) (f : XO) (R : RC) (env : En) (S : List D) (s : Option (Option SV)) : Option (Fl × En × List D) := match s with
  | some (some (.own _)) => appO2 i (f R env S)
  | _ => none
def appO3 (i : Nat) (v : D) (env : En) (S : List D) (s : Option (Option SV)) : Option (Fl × En × List D) := match s with
    | some (some (.own ys)) => if ys.length < sizeLine then some (.nx, env.set i (some (.own (ys ++ [v]))), S) else none
    | _ => none
def lenK (s : Option (Option SV)) (S : List D) : Option (D × List D) := match s with
  | some (some (.own xs)) => some (.int xs.length, S)
  | some (some (.sh d)) => (lenD [d]).map fun r => (r, S)
  | _ => none
def frzK (env : En) (i : Nat) (s : Option (Option SV)) : En := match s with
  | some (some x) => env.set i (some (.sh (frozen x)))
  | _ => env
def mthK2 (name : Str) (a : D) (x : Option (List D × List D)) : Option (D × List D) := x.bind fun y => (mthD name a y.1).map fun d => (d, y.2)
def mthK1 (name : Str) (g : AM) (R : RC) (env : En) (x : Option (D × List D)) : Option (D × List D) := x.bind fun x => mthK2 name x.1 (g R env x.2)
theorem v_put {v : RM} : sPut i v R env S = putK1 i env (v R env S) := rfl
theorem v_putK {s : SV} (h : i < env.length) : putK1 i env (some (s, S)) = some (.nx, env.set i (some s), S) := if_pos h
theorem v_own {l : LM} : vOwn l R env S = ownLK (l R env S) := rfl
theorem v_ownK : ownLK (some (ds, S)) = some (.own ds, S) := rfl
theorem v_lapp {o : List D → Option (List D)} : lApp o as R env S = lappK o (as R env S) := rfl
theorem v_lappK {o : List D → Option (List D)} (h : o ds = some es) : lappK o (some (ds, S)) = some (es, S) := by
  unfold lappK
  simp [h]
theorem v_ladd : lAdd f g R env S = laddK1 g R env (f R env S) := rfl
theorem v_laddK1 : laddK1 g R env (some (a, S)) = laddK2 a (g R env S) := rfl
theorem v_laddK2 (h : ds.length + es.length ≤ 1000) : laddK2 (.lst ds) (some (.lst es, S)) = some (ds ++ es, S) := if_pos (sz1000 h)
theorem v_xo : xoOf f R env S = xoK env (f R env S) := rfl
theorem v_xoK : xoK env (some (a, S)) = some (a, env, S) := rfl
theorem v_sapp {o : XO} : sApp i o R env S = appO1 i o R env S (env[i]?) := rfl
theorem v_sappK1 {o : XO} : appO1 i o R env S (some (some (.own ds))) = appO2 i (o R env S) := rfl
theorem v_sappK2 : appO2 i (some (a, e1, S)) = appO3 i a e1 S (e1[i]?) := rfl
theorem v_sappK3 (h : ds.length < 1000) : appO3 i a e1 S (some (some (.own ds))) = some (.nx, e1.set i (some (.own (ds ++ [a]))), S) := if_pos (Nat.lt_of_lt_of_le h (by decide))
theorem v_lenO : xLenO i R env S = lenK (env[i]?) S := rfl
theorem v_lenK1 : lenK (some (some (.own ds))) S = some (.int ds.length, S) := rfl
theorem v_frz {is : List Nat} : sFrz is p R env S = p R (is.foldl freeze env) S := rfl
theorem v_fold0 : List.foldl freeze env [] = env := rfl
theorem v_fold1 {is : List Nat} : List.foldl freeze env (i :: is) = List.foldl freeze (frzK env i (env[i]?)) is := rfl
theorem v_frzK {s : SV} : frzK env i (some (some s)) = env.set i (some (.sh (frozen s))) := rfl
theorem v_frzN : frzK env i (some none) = env := rfl
theorem v_frozen1 : frozen (.sh d) = d := rfl
theorem v_frozen2 : frozen (.own ds) = .lst ds := rfl
theorem v_frozen3 {ks : List Key} : frozen (.ownD ks ds) = .dic ks ds := rfl
theorem v_mth {name : Str} : xMth name f as R env S = mthK1 name as R env (f R env S) := rfl
theorem v_mthK1 {name : Str} : mthK1 name as R env (some (a, S)) = mthK2 name a (as R env S) := rfl
theorem v_mthK2 {name : Str} : mthK2 name a (some (ds, S)) = pairK (mthD name a ds) S := by
  unfold mthK2 pairK
  cases h : mthD name a ds <;> simp [h]
theorem v_mulI {i j : Int} : mulX (.int i) (.int j) = mulD (.int i) (.int j) := rfl
theorem v_min {i j : Int} : minD [.int i, .int j] = some (.int (if j < i then j else i)) := rfl
theorem v_listL : listX [.lst ds] = some ds := rfl
theorem v_listT : listX [.tup ds] = some ds := rfl
theorem v_list1 : listD [.lst ds] = some (.lst ds) := rfl
theorem v_list2 : listD [.tup ds] = some (.lst ds) := rfl
end
/-! ### lists walked -/
/-- a clause's element for each thing walked, the state untouched -/
theorem compL_map {t : Tg} {tt : En → List D → Option (Bool × List D)} {f : En → List D → Option (D × List D)} {env : En} {S : List D} {g : D → D} : ∀ (ds : List D), (∀ d ∈ ds, ∃ env1, putT t d env = some env1 ∧ tt env1 S = some (true, S) ∧ f env1 S = some (g d, S)) → compL t tt f ds env S = some (ds.map g, S)
  | [], _ => rfl
  | d :: ds, h => by
    obtain ⟨env1, h1, h2, h3⟩ := h d List.mem_cons_self
    have ih := compL_map (t := t) (tt := tt) (f := f) (env := env) (S := S) (g := g) ds fun d hd => h d (List.mem_cons_of_mem _ hd)
    simp only [compL, h1, h2, h3, ih, Option.bind_some, if_true, Option.map_some, List.map_cons]
/-- with a test -/
theorem compL_filter {t : Tg} {tt : En → List D → Option (Bool × List D)} {f : En → List D → Option (D × List D)} {env : En} {S : List D} {c : D → Bool} {g : D → D} : ∀ (ds : List D), (∀ d ∈ ds, ∃ env1, putT t d env = some env1 ∧ tt env1 S = some (c d, S) ∧ (c d = true → f env1 S = some (g d, S))) → compL t tt f ds env S = some ((ds.filter c).map g, S)
  | [], _ => rfl
  | d :: ds, h => by
    obtain ⟨env1, h1, h2, h3⟩ := h d List.mem_cons_self
    have ih := compL_filter (t := t) (tt := tt) (f := f) (env := env) (S := S) (c := c) (g := g) ds fun d hd => h d (List.mem_cons_of_mem _ hd)
    cases hc : c d with
    | true => simp only [compL, h1, h2, hc, h3 hc, ih, Option.bind_some, if_true, Option.map_some, List.filter_cons, List.map_cons]
    | false => simp only [compL, h1, h2, hc, ih, Option.bind_some, Bool.false_eq_true, if_false, List.filter_cons]
/-- the state going on: some data, and what holds of each of them -/
theorem compL_state {t : Tg} {tt : En → List D → Option (Bool × List D)} {f : En → List D → Option (D × List D)} {env : En} {P : List D → Prop} {A : D → D → Prop} : ∀ (ds : List D), (∀ d ∈ ds, ∀ S, P S → ∃ env1, putT t d env = some env1 ∧ ∃ b S1, tt env1 S = some (b, S1) ∧ P S1 ∧ (b = true → ∃ x S2, f env1 S1 = some (x, S2) ∧ P S2 ∧ A d x)) →
    ∀ S, P S → ∃ xs S', compL t tt f ds env S = some (xs, S') ∧ P S' ∧ ∃ zs : List D, zs.Sublist ds ∧ xs.length = zs.length ∧ ∀ (i : Nat) x z, xs[i]? = some x → zs[i]? = some z → A z x
  | [], _, S, hS => ⟨[], S, rfl, hS, [], List.Sublist.slnil, rfl, fun i x z h => by simp at h⟩
  | d :: ds, h, S, hS => by
    obtain ⟨env1, h1, b, S1, h2, hS1, h3⟩ := h d List.mem_cons_self S hS
    have ih := compL_state (t := t) (tt := tt) (f := f) (env := env) (P := P) (A := A) ds fun d hd => h d (List.mem_cons_of_mem _ hd)
    cases b with
    | true =>
      obtain ⟨x, S2, h4, hS2, ha⟩ := h3 rfl
      obtain ⟨xs, S', h5, hS', zs, z1, z2, z3⟩ := ih S2 hS2
      refine ⟨x :: xs, S', by simp only [compL, h1, h2, h4, h5, Option.bind_some, if_true, Option.map_some], hS', d :: zs, z1.cons_cons d, by simp [z2], fun i y z e1 e2 => ?_⟩
      cases i with
      | zero =>
        simp at e1 e2
        subst e1 e2
        exact ha
      | succ i => exact z3 i y z (by simpa using e1) (by simpa using e2)
    | false =>
      obtain ⟨xs, S', h5, hS', zs, z1, z2, z3⟩ := ih S1 hS1
      exact ⟨xs, S', by simp only [compL, h1, h2, h5, Option.bind_some, Bool.false_eq_true, if_false], hS', zs, z1.cons d, z2, z3⟩
/-- two clauses, the state untouched -/
theorem compL2_map {t : Tg} {tt : En → List D → Option (Bool × List D)} {it1 : En → List D → Option (List D × List D)} {t1 : Tg} {tt1 : En → List D → Option (Bool × List D)} {f : En → List D → Option (D × List D)} {env : En} {S : List D} {g : D → List D} : ∀ (ds : List D),
    (∀ d ∈ ds, ∃ env1 es, putT t d env = some env1 ∧ tt env1 S = some (true, S) ∧ t1.slots.all (notOwn env1) = true ∧ it1 env1 S = some (es, S) ∧ compL t1 tt1 f es (wipeE env1 t1.slots) S = some (g d, S)) → compL2 t tt it1 t1 tt1 f ds env S = some ((ds.map g).flatten, S)
  | [], _ => rfl
  | d :: ds, h => by
    obtain ⟨env1, es, h1, h2, h3, h4, h5⟩ := h d List.mem_cons_self
    have ih := compL2_map (t := t) (tt := tt) (it1 := it1) (t1 := t1) (tt1 := tt1) (f := f) (env := env) (S := S) (g := g) ds fun d hd => h d (List.mem_cons_of_mem _ hd)
    simp only [compL2, h1, h2, h3, h4, h5, ih, Option.bind_some, if_true, Option.map_some, List.map_cons, List.flatten_cons]
end Ip

set_option maxHeartbeats 1000000
/-! IpVb: the later meanings reckoned; comprehensions and loops in one step. -/
namespace Ip
open PySem L2
section
variable {R : RC} {env e1 : En} {S S1 S2 : List D} {a b d : D} {ds es : List D} {f g h : XM} {as : AM} {t u : TM} {p q r : SM} {i j : Nat}
/-! ### dicts -/
def dicP (ks : List Key) (ds : List D) (k : Key) (d : D) : D := .dic ((putD (kdOf ks ds) k d).map (·.1)) ((putD (kdOf ks ds) k d).map (·.2))
def starK3 (ks : List Key) (ds : List D) (a : D) (x : Option (D × List D)) : Option (D × List D) := x.bind fun y => (keyD a).map fun k => (dicP ks ds k y.1, y.2)
def starK2 (fv : XM) (R : RC) (env : En) (ks : List Key) (ds : List D) (x : Option (D × List D)) : Option (D × List D) := x.bind fun x => starK3 ks ds x.1 (fv R env x.2)
def starK1 (fk fv : XM) (R : RC) (env : En) (x : Option (D × List D)) : Option (D × List D) := x.bind fun m => match m.1 with
  | .dic ks ds => if ks.length < sizeLine then starK2 fv R env ks ds (fk R env m.2) else none
  | _ => none
theorem v_star : xStar f g h R env S = starK1 g h R env (f R env S) := rfl
theorem v_starK1 {ks : List Key} (hl : ks.length ≤ 1000) : starK1 g h R env (some (.dic ks ds, S)) = starK2 h R env ks ds (g R env S) := if_pos (Nat.lt_of_le_of_lt hl (by decide))
theorem v_starK2 {ks : List Key} : starK2 h R env ks ds (some (a, S)) = starK3 ks ds a (h R env S) := rfl
theorem v_starK3 {ks : List Key} {x : Str} : starK3 ks ds (.str x) (some (b, S)) = some (dicP ks ds (.inr x) b, S) := rfl
theorem v_starK3i {ks : List Key} {x : Int} : starK3 ks ds (.int x) (some (b, S)) = some (dicP ks ds (.inl x) b, S) := rfl
def dicM (l : KD) : D := .dic ((mergeD [] l).map (·.1)) ((mergeD [] l).map (·.2))
def dictK (x : Option (KD × List D)) : Option (D × List D) := x.bind fun x => if x.1.length ≤ 15 then some (dicM x.1, x.2) else none
def pairK3 (kk : Key) (b : D) (x : Option (KD × List D)) : Option (KD × List D) := x.map fun z => ((kk, b) :: z.1, z.2)
def pairK2 (ts : List (XM × XM)) (R : RC) (env : En) (a : D) (x : Option (D × List D)) : Option (KD × List D) := x.bind fun y => (keyD a).bind fun k => pairK3 k y.1 (pairL ts R env y.2)
def pairK1 (g : XM) (ts : List (XM × XM)) (R : RC) (env : En) (x : Option (D × List D)) : Option (KD × List D) := x.bind fun x => pairK2 ts R env x.1 (g R env x.2)
theorem v_dict {ts : List (XM × XM)} : xDict ts R env S = dictK (pairL ts R env S) := rfl
theorem v_dictK {l : KD} (h : l.length ≤ 15) : dictK (some (l, S)) = some (dicM l, S) := if_pos h
theorem v_pair0 : pairL [] R env S = some ([], S) := rfl
theorem v_pair1 {ts : List (XM × XM)} : pairL ((f, g) :: ts) R env S = pairK1 g ts R env (f R env S) := rfl
theorem v_pairK1 {ts : List (XM × XM)} : pairK1 g ts R env (some (a, S)) = pairK2 ts R env a (g R env S) := rfl
theorem v_pairK2s {ts : List (XM × XM)} {x : Str} : pairK2 ts R env (.str x) (some (b, S)) = pairK3 (.inr x) b (pairL ts R env S) := rfl
theorem v_pairK3 {kk : Key} {l : KD} : pairK3 kk b (some (l, S)) = some ((kk, b) :: l, S) := rfl
/-! ### a class -/
def fldK (c f : Str) (x : Option (D × List D)) : Option (D × List D) := x.bind fun x => (fldD c f x.1).map fun d => (d, x.2)
def metK2 (key : Str) (R : RC) (a : D) (x : Option (List D × List D)) : Option (D × List D) := x.bind fun y => R key (a :: y.1) y.2
def metK1 (c m key : Str) (as : AM) (R : RC) (env : En) (x : Option (D × List D)) : Option (D × List D) := x.bind fun x => if metB c m x.1 = true then metK2 key R x.1 (as R env x.2) else none
def newK (c : Str) (ns : List Str) (x : Option (List D × List D)) : Option (D × List D) := x.bind fun y => if y.1.length = ns.length then some (.ins c ns y.1, y.2) else none
theorem v_fld {c m : Str} : xFld c m f R env S = fldK c m (f R env S) := rfl
theorem v_fldK {c m : Str} : fldK c m (some (a, S)) = pairK (fldD c m a) S := by
  unfold fldK pairK
  cases h : fldD c m a <;> simp [h]
theorem v_met {c m key : Str} : xMet c m key f as R env S = metK1 c m key as R env (f R env S) := rfl
theorem v_metK1 {c m key : Str} (h : metB c m a = true) : metK1 c m key as R env (some (a, S)) = metK2 key R a (as R env S) := if_pos h
theorem v_metK2 {key : Str} : metK2 key R a (some (ds, S)) = R key (a :: ds) S := rfl
theorem v_new {c : Str} {ns : List Str} : xNew c ns as R env S = newK c ns (as R env S) := rfl
theorem v_newK {c : Str} {ns : List Str} (h : ds.length = ns.length) : newK c ns (some (ds, S)) = some (.ins c ns ds, S) := if_pos h
/-! ### turned round, put behind -/
def revK (x : Option (D × List D)) : Option (D × List D) := x.bind fun x => match x.1 with
  | .tup ds => some (.tup ds.reverse, x.2)
  | .lst ds => some (.lst ds.reverse, x.2)
  | _ => none
theorem v_rev : xRev f R env S = revK (f R env S) := rfl
theorem v_revT : revK (some (.tup ds, S)) = some (.tup ds.reverse, S) := rfl
theorem v_revL : revK (some (.lst ds, S)) = some (.lst ds.reverse, S) := rfl
def extK2 (i : Nat) (xs : List D) (env : En) (x : Option (D × List D)) : Option (Fl × En × List D) := x.bind fun x => (seqOf x.1).bind fun ds => if xs.length + ds.length ≤ sizeLine then some (.nx, env.set i (some (.own (xs ++ ds))), x.2) else none
def extK1 (i : Nat) (f : XM) (R : RC) (env : En) (S : List D) (s : Option (Option SV)) : Option (Fl × En × List D) := match s with
  | some (some (.own xs)) => extK2 i xs env (f R env S)
  | _ => none
theorem v_ext : sExt i f R env S = extK1 i f R env S (env[i]?) := rfl
theorem v_extK1 : extK1 i f R env S (some (some (.own ds))) = extK2 i ds env (f R env S) := rfl
theorem v_extT (h : ds.length + es.length ≤ 1000000) : extK2 i ds env (some (.tup es, S)) = some (.nx, env.set i (some (.own (ds ++ es))), S) := if_pos (Nat.le_trans h (by decide))
theorem v_extL (h : ds.length + es.length ≤ 1000000) : extK2 i ds env (some (.lst es, S)) = some (.nx, env.set i (some (.own (ds ++ es))), S) := if_pos (Nat.le_trans h (by decide))
/-! ### != -/
theorem ox_neI {i j : Int} : neX (.int i) (.int j) = some (.bl (!decide (i = j))) := rfl
theorem ox_neS {i j : Str} : neX (.str i) (.str j) = some (.bl (!decide (i = j))) := rfl
theorem ox_neB {i j : Bool} : neX (.bl i) (.bl j) = some (.bl (!decide (i = j))) := rfl
theorem ox_neNI {j : Int} : neX .non (.int j) = some (.bl true) := rfl
theorem ox_neIN {j : Int} : neX (.int j) .non = some (.bl true) := rfl
/-! ### words -/
theorem str_inj (a b : String) : (Str.ofString a = Str.ofString b) = (a = b) := by
  refine propext ⟨fun h => ?_, fun h => by rw [h]⟩
  rw [Str.ofString_eq_toList, Str.ofString_eq_toList] at h
  have h1 := congrArg (fun s : Str => s.cps.toList) h
  simp only at h1
  have inj : ∀ (l m : List Char), l.map Char.toNat = m.map Char.toNat → l = m := fun l => by
    induction l with
    | nil => intro m h; cases m <;> simp at h ⊢
    | cons c l ih =>
      intro m h
      cases m with
      | nil => simp at h
      | cons c' m =>
        simp only [List.map_cons, List.cons.injEq] at h
        rw [ih m h.2, Char.toNat_inj.mp h.1]
  exact String.toList_inj.mp (inj _ _ h1)
theorem o_in1 {x a : Str} : inD (.str x) (.tup [.str a]) = some (.bl (decide (a = x))) := by
  show some (D.bl ((a == x) || false)) = _
  rw [Bool.or_false, Bool.beq_eq_decide_eq]
theorem o_in2 {x a b : Str} : inD (.str x) (.tup [.str a, .str b]) = some (.bl (decide (a = x) || decide (b = x))) := by
  show some (D.bl ((a == x) || ((b == x) || false))) = _
  rw [Bool.or_false, Bool.beq_eq_decide_eq, Bool.beq_eq_decide_eq]
theorem o_in3 {x a b c : Str} : inD (.str x) (.tup [.str a, .str b, .str c]) = some (.bl (decide (a = x) || (decide (b = x) || decide (c = x)))) := by
  show some (D.bl ((a == x) || ((b == x) || ((c == x) || false)))) = _
  rw [Bool.or_false, Bool.beq_eq_decide_eq, Bool.beq_eq_decide_eq, Bool.beq_eq_decide_eq]
theorem atm2 {α : Type} {x y : α} : atI [x, y] (-1) = some y := rfl
theorem atm3 {α : Type} {x y z : α} : atI [x, y, z] (-1) = some z := rfl
theorem atm4 {α : Type} {x y z w : α} : atI [x, y, z, w] (-1) = some w := rfl
theorem at2c1 {α : Type} {x y : α} : atI [x, y] (((2 : Nat) : Int) - 1) = some y := rfl
theorem nI (n : Nat) : ((no_index (OfNat.ofNat n) : Nat) : Int) = OfNat.ofNat n := rfl
theorem at3c1 {α : Type} {x y z : α} : atI [x, y, z] (((3 : Nat) : Int) - 1) = some z := rfl
theorem at4c1 {α : Type} {x y z w : α} : atI [x, y, z, w] (((4 : Nat) : Int) - 1) = some w := rfl
theorem at3c2 {α : Type} {x y z : α} : atI [x, y, z] (((3 : Nat) : Int) - 2) = some y := rfl
theorem at4c2 {α : Type} {x y z w : α} : atI [x, y, z, w] (((4 : Nat) : Int) - 2) = some z := rfl
/-! ### dicts of one's own -/
def vdicK (g : List D → Option (List Key × List D)) (x : Option (List D × List D)) : Option (SV × List D) := x.bind fun x => (g x.1).map fun e => (.ownD e.1 e.2, x.2)
theorem v_vdic {g : List D → Option (List Key × List D)} : vDic g as R env S = vdicK g (as R env S) := rfl
theorem v_vdicD {ks : List Key} : vdicK dictL (some ([.dic ks ds], S)) = some (.ownD ks ds, S) := rfl
def keyK2 (i : Nat) (v : D) (env : En) (x : Option (D × List D)) (s : Option (Option SV)) : Option (Fl × En × List D) := match s with
  | some (some (.ownD ks ds)) => x.bind fun kx => (keyD kx.1).bind fun k => if ks.length < sizeLine then some (.nx, env.set i (some (.ownD ((putD (kdOf ks ds) k v).map (·.1)) ((putD (kdOf ks ds) k v).map (·.2)))), kx.2) else none
  | _ => none
def keyK1 (i : Nat) (g : XM) (R : RC) (env : En) (x : Option (D × List D)) : Option (Fl × En × List D) := x.bind fun v => keyK2 i v.1 env (g R env v.2) (env[i]?)
theorem v_key : sKey i g f R env S = keyK1 i g R env (f R env S) := by
  unfold sKey keyK1 keyK2
  cases f R env S with
  | none => rfl
  | some v => rfl
theorem v_keyK1 : keyK1 i g R env (some (a, S)) = keyK2 i a env (g R env S) (env[i]?) := rfl
theorem v_keyK2 {ks : List Key} {x : Str} (h : ks.length ≤ 1000) : keyK2 i a env (some (.str x, S)) (some (some (.ownD ks ds))) = some (.nx, env.set i (some (.ownD ((putD (kdOf ks ds) (.inr x) a).map (·.1)) ((putD (kdOf ks ds) (.inr x) a).map (·.2)))), S) :=
  if_pos (Nat.lt_of_le_of_lt h (by decide))
theorem v_keyK2i {ks : List Key} {x : Int} (h : ks.length ≤ 1000) : keyK2 i a env (some (.int x, S)) (some (some (.ownD ks ds))) = some (.nx, env.set i (some (.ownD ((putD (kdOf ks ds) (.inl x) a).map (·.1)) ((putD (kdOf ks ds) (.inl x) a).map (·.2)))), S) :=
  if_pos (Nat.lt_of_le_of_lt h (by decide))
def newDK (x : List D) : Option (SV × List D) := some (.ownD [] [], x)
/-! ### bounds -/
theorem szM {n : Nat} (h : n ≤ 1000000) : n ≤ sizeLine := Nat.le_trans h (by decide)
theorem ob_addL {xs ys : List D} (h : xs.length + ys.length ≤ 1000000) : addD (.lst xs) (.lst ys) = some (.lst (xs ++ ys)) := if_pos (szM h)
theorem ob_addT {xs ys : List D} (h : xs.length + ys.length ≤ 1000000) : addD (.tup xs) (.tup ys) = some (.tup (xs ++ ys)) := if_pos (szM h)
theorem ob_tupK (h : ds.length ≤ 1000000) : tupK (some (ds, S)) = some (.tup ds, S) := if_pos (szM h)
theorem ob_dispK (h : ds.length ≤ 1000000) : dispK (some (ds, S)) = some (ds, S) := if_pos (szM h)
/-- range(n) -/
def rangeD (n : Nat) : List D := (List.range n).map fun (k : Nat) => D.int (k : Int)
theorem irs0 (n : Nat) : irs 0 n = rangeD n := by
  unfold irs rangeD
  exact List.map_congr_left fun k _ => by rw [Int.zero_add]
theorem o_rng {n : Nat} (h : n ≤ 1000000) : rng1 [.int (n : Int)] = some (rangeD n) := by
  have h1 : -(2 ^ 62) ≤ (n : Int) := Int.le_trans (by decide) (Int.natCast_nonneg n)
  have h2 : (n : Int) < 2 ^ 62 := Int.lt_of_le_of_lt (Int.ofNat_le.mpr h) (by decide)
  show (if inR (n : Int) then some (irs 0 ((n : Int)).toNat) else none) = _
  rw [if_pos (by unfold inR; exact decide_eq_true ⟨h1, h2⟩), Int.toNat_natCast, irs0]
theorem rangeD_length (n : Nat) : (rangeD n).length = n := by
  unfold rangeD
  rw [List.length_map, List.length_range]
/-! ### comprehensions in one step -/
section
variable {α : Type} {vs : List Nat} {F : En → List D → Option (D × List D)}
/-- some of the things walked -/
theorem k_filter {t : Tg} (T G : α → D) (P : α → Bool) (l : List α) (E : α → En) (h1 : (vs.all (notOwn env) && t.slots.all (fun i => decide (i ∈ vs))) = true) (hl : l.length ≤ 1000000)
    (h : ∀ x ∈ l, putT t (T x) (wipeE env vs) = some (E x) ∧ u R (E x) S = some (P x, S) ∧ (P x = true → f R (E x) S = some (G x, S))) :
    compK t vs u f R env (some (l.map T, S)) = some ((l.filter P).map G, S) := by
  unfold compK
  rw [if_pos h1]
  show (if (l.map T).length ≤ sizeLine then _ else _) = _
  rw [if_pos (szM (by rw [List.length_map]; exact hl))]
  exact comp_filterT T G P l fun x hx => ⟨_, (h x hx).1, (h x hx).2.1, (h x hx).2.2⟩
theorem k_map {t : Tg} (T G : α → D) (l : List α) (E : α → En) (h1 : (vs.all (notOwn env) && t.slots.all (fun i => decide (i ∈ vs))) = true) (hl : l.length ≤ 1000000)
    (h : ∀ x ∈ l, putT t (T x) (wipeE env vs) = some (E x) ∧ f R (E x) S = some (G x, S)) :
    compK t vs mYes f R env (some (l.map T, S)) = some (l.map G, S) := by
  rw [k_filter T G (fun _ => true) l E h1 hl fun x hx => ⟨(h x hx).1, rfl, fun _ => (h x hx).2⟩]
  rw [List.filter_eq_self.mpr fun _ _ => rfl]
/-- the same, the target a name -/
theorem k_filt {i : Nat} (T G : α → D) (P : α → Bool) (l : List α) (h1 : (vs.all (notOwn env) && (Tg.name i).slots.all (fun i => decide (i ∈ vs))) = true) (hl : l.length ≤ 1000000)
    (h : ∀ x ∈ l, u R ((wipeE env vs).set i (some (.sh (T x)))) S = some (P x, S) ∧ (P x = true → f R ((wipeE env vs).set i (some (.sh (T x)))) S = some (G x, S))) :
    compK (.name i) vs u f R env (some (l.map T, S)) = some ((l.filter P).map G, S) := k_filter T G P l (fun x => (wipeE env vs).set i (some (.sh (T x)))) h1 hl fun x hx => ⟨rfl, h x hx⟩
theorem k_mapN {i : Nat} (T G : α → D) (l : List α) (h1 : (vs.all (notOwn env) && (Tg.name i).slots.all (fun i => decide (i ∈ vs))) = true) (hl : l.length ≤ 1000000)
    (h : ∀ x ∈ l, f R ((wipeE env vs).set i (some (.sh (T x)))) S = some (G x, S)) :
    compK (.name i) vs mYes f R env (some (l.map T, S)) = some (l.map G, S) := k_map T G l (fun x => (wipeE env vs).set i (some (.sh (T x)))) h1 hl fun x hx => ⟨rfl, h x hx⟩
/-- the same, over data as they stand -/
theorem k_mapD {i : Nat} (G : D → D) {ds : List D} (h1 : (vs.all (notOwn env) && (Tg.name i).slots.all (fun i => decide (i ∈ vs))) = true) (hl : ds.length ≤ 1000000)
    (h : ∀ x ∈ ds, f R ((wipeE env vs).set i (some (.sh x))) S = some (G x, S)) :
    compK (.name i) vs mYes f R env (some (ds, S)) = some (ds.map G, S) := by
  have := k_mapN (R := R) (env := env) (S := S) (f := f) (vs := vs) (i := i) (fun x => x) G ds h1 hl h
  rw [List.map_id'] at this
  exact this
theorem k_filtD {i : Nat} (P : D → Bool) {ds : List D} (h1 : (vs.all (notOwn env) && (Tg.name i).slots.all (fun i => decide (i ∈ vs))) = true) (hl : ds.length ≤ 1000000)
    (h : ∀ x ∈ ds, u R ((wipeE env vs).set i (some (.sh x))) S = some (P x, S) ∧ (P x = true → f R ((wipeE env vs).set i (some (.sh x))) S = some (x, S))) :
    compK (.name i) vs u f R env (some (ds, S)) = some (ds.filter P, S) := by
  have := k_filt (R := R) (env := env) (S := S) (u := u) (f := f) (vs := vs) (i := i) (fun x => x) (fun x => x) P ds h1 hl h
  rw [List.map_id', List.map_id'] at this
  exact this
/-- the state goes on -/
theorem k_any {t : Tg} (T : α → D) (I : List D → Prop) (Q : D → Prop) (l : List α) (h1 : (vs.all (notOwn env) && t.slots.all (fun i => decide (i ∈ vs))) = true) (hl : l.length ≤ 1000000) (hI : I S)
    (h : ∀ x ∈ l, ∀ S, I S → ∃ e, putT t (T x) (wipeE env vs) = some e ∧ ∃ d S', f R e S = some (d, S') ∧ I S' ∧ Q d) :
    ∃ ds S', compK t vs mYes f R env (some (l.map T, S)) = some (ds, S') ∧ I S' ∧ ds.length = l.length ∧ ∀ d ∈ ds, Q d := by
  have := comp_any (env := wipeE env vs) (t := t) (tt := mYes R) (f := f R) T I Q l S hI fun x hx S hS => by
    obtain ⟨e, h2, d, S', h3, h4, h5⟩ := h x hx S hS
    exact ⟨e, h2, rfl, d, S', h3, h4, h5⟩
  obtain ⟨ds, S', h2, h3, h4, h5⟩ := this
  refine ⟨ds, S', ?_, h3, h4, h5⟩
  unfold compK
  rw [if_pos h1]
  show (if (l.map T).length ≤ sizeLine then _ else _) = _
  rw [if_pos (szM (by rw [List.length_map]; exact hl))]
  exact h2
end
/-! ### loops in one step -/
/-- a loop that goes on: what holds before each turn holds behind it -/
theorem for_inv {t : Tg} {B : En → List D → Option (Fl × En × List D)} (I : En → List D → Prop) : ∀ (ds : List D), (∀ d ∈ ds, ∀ env S, I env S → ∃ e env' S', putT t d env = some e ∧ (B e S = some (.nx, env', S') ∨ B e S = some (.ct, env', S')) ∧ I env' S') →
    ∀ env S, I env S → ∃ env' S', forL t B ds env S = some (.nx, env', S') ∧ I env' S'
  | [], _, env, S, hI => ⟨env, S, rfl, hI⟩
  | d :: ds, h, env, S, hI => by
    obtain ⟨e, env', S', h1, h2, h3⟩ := h d List.mem_cons_self env S hI
    obtain ⟨env2, S2, h4, h5⟩ := for_inv I ds (fun x hx => h x (List.mem_cons_of_mem _ hx)) env' S' h3
    refine ⟨env2, S2, ?_, h5⟩
    simp only [forL, h1, Option.bind_some]
    rcases h2 with h2 | h2 <;> simp only [h2, Option.bind_some, h4]
/-- a loop that reckons: β is what is reckoned -/
theorem for_fold {α β : Type} {t : Tg} {B : En → List D → Option (Fl × En × List D)} (T : α → D) (E : β → En) (st : β → α → β) : ∀ (l : List α) (b : β), (∀ x ∈ l, ∀ b, ∃ e, putT t (T x) (E b) = some e ∧ (B e S = some (.nx, E (st b x), S) ∨ B e S = some (.ct, E (st b x), S))) →
    forL t B (l.map T) (E b) S = some (.nx, E (l.foldl st b), S)
  | [], b, _ => rfl
  | x :: l, b, h => by
    obtain ⟨e, h1, h2⟩ := h x List.mem_cons_self b
    have ih := for_fold (B := B) T E st l (st b x) fun y hy => h y (List.mem_cons_of_mem _ hy)
    rw [List.map_cons]
    simp only [forL, h1, Option.bind_some]
    rcases h2 with h2 | h2 <;> simp only [h2, Option.bind_some, ih, List.foldl_cons]
end
/-! ### dicts of texts and numbers -/
abbrev Vals' := List (Str × Int)
def valD (v : Vals') : D := .dic (v.map fun a => Sum.inr a.1) (v.map fun a => D.int a.2)
def lookV : Vals' → Str → Option Int
  | [], _ => none
  | a :: v, x => if a.1 = x then some a.2 else lookV v x
def putV (v : Vals') (x : Str) (t : Int) : Vals' := if (v.any fun a => decide (a.1 = x)) = true then v.map (fun a => if a.1 = x then (a.1, t) else a) else v ++ [(x, t)]
theorem look_valD : ∀ (v : Vals') (x : Str), lookK (v.map fun a => Sum.inr a.1) (v.map fun a => D.int a.2) (.inr x) = (lookV v x).map D.int
  | [], _ => rfl
  | a :: v, x => by
    rw [List.map_cons, List.map_cons, lookK, lookV]
    by_cases h : a.1 = x
    · rw [if_pos (congrArg Sum.inr h), if_pos h]
      rfl
    · rw [if_neg (fun z => h (Sum.inr.inj z)), if_neg h]
      exact look_valD v x
theorem kdOf_val : ∀ (v : Vals'), kdOf (v.map fun a => Sum.inr a.1) (v.map fun a => D.int a.2) = v.map fun a => ((Sum.inr a.1 : Key), D.int a.2)
  | [] => rfl
  | a :: v => by rw [List.map_cons, List.map_cons, kdOf, kdOf_val v, List.map_cons]
theorem putD_val (v : Vals') (x : Str) (t : Int) : putD (v.map fun a => ((Sum.inr a.1 : Key), D.int a.2)) (.inr x) (.int t) = (putV v x t).map fun a => ((Sum.inr a.1 : Key), D.int a.2) := by
  have e : ((v.map fun a => ((Sum.inr a.1 : Key), D.int a.2)).any fun kv => decide (kv.1 = Sum.inr x)) = v.any fun a => decide (a.1 = x) := by
    rw [List.any_map]
    refine congrArg (fun f => List.any v f) (funext fun a => ?_)
    show decide ((Sum.inr a.1 : Key) = Sum.inr x) = decide (a.1 = x)
    by_cases h : a.1 = x
    · rw [decide_eq_true h, decide_eq_true (congrArg Sum.inr h)]
    · rw [decide_eq_false h, decide_eq_false (fun z => h (Sum.inr.inj z))]
  unfold putD putV
  rw [e]
  split
  · rw [List.map_map, List.map_map]
    refine List.map_congr_left fun a _ => ?_
    show (if (Sum.inr a.1 : Key) = Sum.inr x then _ else _) = _
    by_cases h : a.1 = x
    · rw [if_pos (congrArg Sum.inr h)]
      show _ = ((Sum.inr (if a.1 = x then (a.1, t) else a).1 : Key), D.int (if a.1 = x then (a.1, t) else a).2)
      rw [if_pos h]
    · rw [if_neg (fun z => h (Sum.inr.inj z))]
      show _ = ((Sum.inr (if a.1 = x then (a.1, t) else a).1 : Key), D.int (if a.1 = x then (a.1, t) else a).2)
      rw [if_neg h]
  · rw [List.map_append]
    rfl
theorem dicP_val (v : Vals') (x : Str) (t : Int) : dicP (v.map fun a => Sum.inr a.1) (v.map fun a => D.int a.2) (.inr x) (.int t) = valD (putV v x t) := by
  unfold dicP valD
  rw [kdOf_val, putD_val, List.map_map, List.map_map]
  rfl
theorem lookV_put (v : Vals') (x y : Str) (t : Int) : lookV (putV v x t) y = if x = y then some t else lookV v y := by
  unfold putV
  split
  · rename_i h
    induction v with
    | nil => cases h
    | cons a v ih =>
      rw [List.map_cons]
      by_cases ha : a.1 = x
      · rw [if_pos ha, lookV]
        by_cases hy : x = y
        · rw [if_pos (ha.trans hy), if_pos hy]
        · rw [if_neg (fun z => hy (ha.symm.trans z)), if_neg hy, lookV, if_neg (fun z => hy (ha.symm.trans z))]
          by_cases hv : (v.any fun a => decide (a.1 = x)) = true
          · have := ih hv
            rw [if_neg hy] at this
            exact this
          · have : v.map (fun a => if a.1 = x then (a.1, t) else a) = v := by
              have key : ∀ b ∈ v, (if b.1 = x then (b.1, t) else b) = b := fun b hb => if_neg fun z => hv (List.any_eq_true.mpr ⟨b, hb, decide_eq_true z⟩)
              exact (List.map_congr_left key).trans (List.map_id v)
            rw [this]
      · rw [if_neg ha, lookV, lookV]
        have hv : (v.any fun a => decide (a.1 = x)) = true := by
          rw [List.any_cons, decide_eq_false ha, Bool.false_or] at h
          exact h
        rw [ih hv]
        by_cases hy : a.1 = y
        · rw [if_pos hy, if_pos hy]
          by_cases hx : x = y
          · exact absurd (hy.trans hx.symm) ha
          · rw [if_neg hx]
        · rw [if_neg hy, if_neg hy]
  · rename_i h
    induction v with
    | nil => rfl
    | cons a v ih =>
      have ha : ¬ a.1 = x := fun z => h (by rw [List.any_cons, decide_eq_true z]; rfl)
      have hv : ¬ (v.any fun a => decide (a.1 = x)) = true := fun z => h (by rw [List.any_cons, z, Bool.or_true])
      rw [List.cons_append, lookV, lookV, ih hv]
      by_cases hy : a.1 = y
      · rw [if_pos hy, if_pos hy]
        by_cases hx : x = y
        · exact absurd (hy.trans hx.symm) ha
        · rw [if_neg hx]
      · rw [if_neg hy, if_neg hy]
theorem putV_len (v : Vals') (x : Str) (t : Int) : (putV v x t).length ≤ v.length + 1 := by
  unfold putV
  split
  · rw [List.length_map]; omega
  · rw [List.length_append]; simp
theorem v_valX {v : Vals'} {x : Str} {t : Int} {S : List D} (h : lookV v x = some t) : ixK2 (valD v) (some (.str x, S)) = some (.int t, S) := by
  show ((lookK (v.map fun a => Sum.inr a.1) (v.map fun a => D.int a.2) (.inr x)).map fun r => (r, S)) = _
  rw [look_valD, h]
  rfl
end Ip

set_option maxHeartbeats 4000000
namespace Ip
open PySem L2
def topS (i : Nat) : Stmt := PySem.Challenge.pw_kindcounts_k06_whole_ranks_and_censuses.main.body.getD i (.Pass ⟨0, 0, 0, 0⟩)
def i_inner_of : DefI := ⟨"inner_of", topS 1, ["formula"], ["formula", "word"], [], [], "inner_of"⟩
def i_rank_of : DefI := ⟨"rank_of", topS 2, ["formula"], ["formula", "word", "inner", "part"], [], [], "rank_of"⟩
def i_things_of : DefI := ⟨"things_of", topS 4, ["room", "kind"], ["room", "kind"], [], [], "things_of"⟩
def i_is_so : DefI := ⟨"is_so", topS 5, ["room", "formula", "values"], ["room", "formula", "values", "word", "name", "many", "thing"], [], [], "is_so"⟩
def i_holds : DefI := ⟨"holds", topS 6, ["room", "sentence"], ["room", "sentence"], [], [], "holds"⟩
def i_renumbered : DefI := ⟨"renumbered", topS 7, ["room", "order"], ["room", "order", "rows", "thing", "kind", "things"], [], [], "renumbered"⟩
def i_types_of : DefI := ⟨"types_of", topS 9, ["kinds"], ["kinds", "rows", "kind", "row"], [], [], "types_of"⟩
def i_type_in : DefI := ⟨"type_in", topS 10, ["room", "kinds", "thing"], ["room", "kinds", "thing", "kind"], [], [], "type_in"⟩
def i_census_of : DefI := ⟨"census_of", topS 11, ["room", "kinds", "limit"], ["room", "kinds", "limit", "told", "thing", "one"], [], [], "census_of"⟩
def i_room_of : DefI := ⟨"room_of", topS 12, ["kinds", "census"], ["kinds", "census", "types", "told", "one", "many", "_", "rows", "k", "kind"], [], [], "room_of"⟩
def i__law_pool : DefI := ⟨"_law_pool", topS 14, ["script"], ["script", "salt", "cell"], [], [], "_law_pool"⟩
def i__law_spread : DefI := ⟨"_law_spread", topS 15, ["cell"], ["cell", "blended", "whole_sum", "k"], [], [], "_law_spread"⟩
def i__law_draw : DefI := ⟨"_law_draw", topS 16, ["pool", "many"], ["pool", "many", "cell", "blended", "value"], [], [], "_law_draw"⟩
def i__law_pick : DefI := ⟨"_law_pick", topS 17, ["pool", "items"], ["pool", "items"], [], [], "_law_pick"⟩
def i__law_formula : DefI := ⟨"_law_formula", topS 18, ["pool", "names", "kinds", "deep"], ["pool", "names", "kinds", "deep", "turn", "one"], [], [], "_law_formula"⟩
def i__law_bound : DefI := ⟨"_law_bound", topS 19, ["pool", "names", "kinds", "deep"], ["pool", "names", "kinds", "deep", "name", "inner", "turn"], [], [], "_law_bound"⟩
def i__law_inner : DefI := ⟨"_law_inner", topS 20, ["formula"], ["formula"], [], [], "_law_inner"⟩
def i__law_rank : DefI := ⟨"_law_rank", topS 21, ["formula"], ["formula", "inner", "part"], [], [], "_law_rank"⟩
def i__law_sentence : DefI := ⟨"_law_sentence", topS 22, ["pool", "kinds", "deep"], ["pool", "kinds", "deep", "found"], [], [], "_law_sentence"⟩
def i__law_subsets : DefI := ⟨"_law_subsets", topS 23, ["number"], ["number", "found", "k", "one"], [], [], "_law_subsets"⟩
def i__law_types : DefI := ⟨"_law_types", topS 24, ["kinds"], ["kinds", "k", "places"], [], [], "_law_types"⟩
def i__law_census_room : DefI := ⟨"_law_census_room", topS 25, ["kinds", "census"], ["kinds", "census", "types", "told", "k", "rows", "thing", "kind"], [], [], "_law_census_room"⟩
def i__law_things : DefI := ⟨"_law_things", topS 26, ["room", "kind"], ["room", "kind"], [], [], "_law_things"⟩
def i__law_so : DefI := ⟨"_law_so", topS 27, ["room", "formula", "values"], ["room", "formula", "values", "word", "one", "two", "name", "many", "thing", "more"], ["more"], [(148, [9])], "_law_so"⟩
def i__law_holds : DefI := ⟨"_law_holds", topS 28, ["room", "sentence"], ["room", "sentence"], [], [], "_law_holds"⟩
def i__law_turn : DefI := ⟨"_law_turn", topS 29, ["pool", "n"], ["pool", "n", "left", "found", "k"], ["found", "left"], [(157, [3])], "_law_turn"⟩
def i_law : DefI := ⟨"law", topS 30, ["script"], ["script", "pool", "kinds", "turn", "sentence", "rank", "types", "census", "each", "room", "less", "more", "many", "due", "order"], [], [], "law"⟩
def G : Prg := ⟨[i_inner_of, i_rank_of, i_things_of, i_is_so, i_holds, i_renumbered, i_types_of, i_type_in, i_census_of, i_room_of, i__law_spread, i__law_draw, i__law_pick, i__law_formula, i__law_bound, i__law_inner, i__law_rank, i__law_sentence, i__law_subsets, i__law_types, i__law_census_room, i__law_things, i__law_so, i__law_holds, i__law_turn], ["dict", "int", "len", "list", "max", "min", "range", "sorted", "sum", "tuple", "zip"], [], [], []⟩
def s_inner_of_0 : SM := sAsg (.name 1) (xIx (xVar 0) (xC (.int 0)))
def s_inner_of_1 : SM := sIf (mBl (xBin inD (xVar 1) (xTup (aCons (xC (.str "true")) (aCons (xC (.str "is")) (aCons (xC (.str "same")) (aNil))))))) (sSeq (sRet (xTup (aNil))) (sNil)) (sNil)
def s_inner_of_2 : SM := sRet (xIf (mBl (xBin inD (xVar 1) (xTup (aCons (xC (.str "not")) (aCons (xC (.str "both")) (aCons (xC (.str "either")) (aNil))))))) (xSli (xVar 0) (oSome (xC (.int 1))) (oNone)) (xSli (xVar 0) (oSome (xUn negD (xC (.int 1)))) (oNone)))
def b_inner_of : SM := sSeq s_inner_of_0 (sSeq s_inner_of_1 (sSeq s_inner_of_2 (sNil)))
def s_rank_of_0 : SM := sAsg (.name 1) (xIx (xVar 0) (xC (.int 0)))
def s_rank_of_1 : SM := sAsg (.name 2) (xApp maxD (aCons (xBin addD (xLst (lDisp (aCons (xC (.int 0)) (aNil)))) (xLst (lComp (iOf (xCall "inner_of" (aCons (xVar 0) (aNil)))) (.name 3) [3] (mYes) (xCall "rank_of" (aCons (xVar 3) (aNil)))))) (aNil)))
def s_rank_of_2 : SM := sIf (mBl (xBin inD (xVar 1) (xTup (aCons (xC (.str "some")) (aCons (xC (.str "each")) (aNil)))))) (sSeq (sRet (xBin addD (xC (.int 1)) (xVar 2))) (sNil)) (sNil)
def s_rank_of_3 : SM := sRet (xIf (mBl (xBin eqD (xVar 1) (xC (.str "many")))) (xBin addD (xIx (xVar 0) (xC (.int 1))) (xVar 2)) (xVar 2))
def b_rank_of : SM := sSeq s_rank_of_0 (sSeq s_rank_of_1 (sSeq s_rank_of_2 (sSeq s_rank_of_3 (sNil))))
def s_things_of_0 : SM := sRet (xMth "get" (xApp dictD (aCons (xIx (xVar 0) (xC (.int 1))) (aNil))) (aCons (xVar 1) (aCons (xTup (aNil)) (aNil))))
def b_things_of : SM := sSeq s_things_of_0 (sNil)
def s_is_so_0 : SM := sAsg (.name 3) (xIx (xVar 1) (xC (.int 0)))
def s_is_so_1 : SM := sIf (mBl (xBin eqD (xVar 3) (xC (.str "true")))) (sSeq (sRet (xC (.bl true))) (sNil)) (sNil)
def s_is_so_2 : SM := sIf (mBl (xBin eqD (xVar 3) (xC (.str "is")))) (sSeq (sRet (xBin inD (xIx (xVar 2) (xIx (xVar 1) (xC (.int 2)))) (xCall "things_of" (aCons (xVar 0) (aCons (xIx (xVar 1) (xC (.int 1))) (aNil)))))) (sNil)) (sNil)
def s_is_so_3 : SM := sIf (mBl (xBin eqD (xVar 3) (xC (.str "same")))) (sSeq (sRet (xBin eqD (xIx (xVar 2) (xIx (xVar 1) (xC (.int 1)))) (xIx (xVar 2) (xIx (xVar 1) (xC (.int 2)))))) (sNil)) (sNil)
def s_is_so_4 : SM := sIf (mBl (xBin eqD (xVar 3) (xC (.str "not")))) (sSeq (sRet (xNot (xCall "is_so" (aCons (xVar 0) (aCons (xIx (xVar 1) (xC (.int 1))) (aCons (xVar 2) (aNil))))))) (sNil)) (sNil)
def s_is_so_5 : SM := sIf (mBl (xBin eqD (xVar 3) (xC (.str "both")))) (sSeq (sRet (xAnd (xCall "is_so" (aCons (xVar 0) (aCons (xIx (xVar 1) (xC (.int 1))) (aCons (xVar 2) (aNil))))) (xCall "is_so" (aCons (xVar 0) (aCons (xIx (xVar 1) (xC (.int 2))) (aCons (xVar 2) (aNil))))))) (sNil)) (sNil)
def s_is_so_6 : SM := sIf (mBl (xBin eqD (xVar 3) (xC (.str "either")))) (sSeq (sRet (xOr (xCall "is_so" (aCons (xVar 0) (aCons (xIx (xVar 1) (xC (.int 1))) (aCons (xVar 2) (aNil))))) (xCall "is_so" (aCons (xVar 0) (aCons (xIx (xVar 1) (xC (.int 2))) (aCons (xVar 2) (aNil))))))) (sNil)) (sNil)
def s_is_so_7 : SM := sAsg (.name 4) (xIf (mBl (xBin eqD (xVar 3) (xC (.str "many")))) (xIx (xVar 1) (xC (.int 2))) (xIx (xVar 1) (xC (.int 1))))
def s_is_so_8 : SM := sAsg (.name 5) (xApp lenD (aCons (xLst (lComp (iArg rng1 (aCons (xIx (xVar 0) (xC (.int 0))) (aNil))) (.name 6) [6] (mTru (xCall "is_so" (aCons (xVar 0) (aCons (xIx (xVar 1) (xUn negD (xC (.int 1)))) (aCons (xStar (xVar 2) (xVar 4) (xVar 6)) (aNil)))))) (xVar 6))) (aNil)))
def s_is_so_9 : SM := sRet (xIf (mBl (xBin eqD (xVar 3) (xC (.str "many")))) (xBin geD (xVar 5) (xIx (xVar 1) (xC (.int 1)))) (xIf (mBl (xBin eqD (xVar 3) (xC (.str "some")))) (xBin gtD (xVar 5) (xC (.int 0))) (xBin eqD (xVar 5) (xIx (xVar 0) (xC (.int 0))))))
def b_is_so : SM := sSeq s_is_so_0 (sSeq s_is_so_1 (sSeq s_is_so_2 (sSeq s_is_so_3 (sSeq s_is_so_4 (sSeq s_is_so_5 (sSeq s_is_so_6 (sSeq s_is_so_7 (sSeq s_is_so_8 (sSeq s_is_so_9 (sNil))))))))))
def s_holds_0 : SM := sRet (xCall "is_so" (aCons (xVar 0) (aCons (xVar 1) (aCons (xC (.dic [] [])) (aNil)))))
def b_holds : SM := sSeq s_holds_0 (sNil)
def s_renumbered_0 : SM := sAsg (.name 2) (xLst (lComp (iOf (xIx (xVar 0) (xC (.int 1)))) (.tup [4, 5]) [4, 5] (mYes) (xTup (aCons (xVar 4) (aCons (xApp tupOf (aCons (xApp sortD (aCons (xLst (lComp (iOf (xVar 5)) (.name 3) [3] (mYes) (xMth "index" (xVar 1) (aCons (xVar 3) (aNil))))) (aNil))) (aNil))) (aNil))))))
def s_renumbered_1 : SM := sRet (xTup (aCons (xIx (xVar 0) (xC (.int 0))) (aCons (xApp tupOf (aCons (xVar 2) (aNil))) (aNil))))
def b_renumbered : SM := sSeq s_renumbered_0 (sSeq s_renumbered_1 (sNil))
def s_types_of_1_b : SM := sSeq (sAsg (.name 1) (xBin addD (xVar 1) (xLst (lComp (iOf (xVar 1)) (.name 3) [3] (mYes) (xBin addD (xVar 3) (xTup (aCons (xVar 2) (aNil)))))))) (sNil)
def s_types_of_0 : SM := sAsg (.name 1) (xLst (lDisp (aCons (xTup (aNil)) (aNil))))
def s_types_of_1 : SM := sFor (iOf (xVar 0)) (.name 2) s_types_of_1_b
def s_types_of_2 : SM := sRet (xApp sortD (aCons (xVar 1) (aNil)))
def b_types_of : SM := sSeq s_types_of_0 (sSeq s_types_of_1 (sSeq s_types_of_2 (sNil)))
def s_type_in_0 : SM := sRet (xApp tupOf (aCons (xLst (lComp (iOf (xVar 1)) (.name 3) [3] (mBl (xBin inD (xVar 2) (xCall "things_of" (aCons (xVar 0) (aCons (xVar 3) (aNil)))))) (xVar 3))) (aNil)))
def b_type_in : SM := sSeq s_type_in_0 (sNil)
def s_census_of_0 : SM := sAsg (.name 3) (xLst (lComp (iArg rng1 (aCons (xIx (xVar 0) (xC (.int 0))) (aNil))) (.name 4) [4] (mYes) (xCall "type_in" (aCons (xVar 0) (aCons (xVar 1) (aCons (xVar 4) (aNil)))))))
def s_census_of_1 : SM := sRet (xApp tupOf (aCons (xLst (lComp (iOf (xCall "types_of" (aCons (xVar 1) (aNil)))) (.name 5) [5] (mYes) (xApp minD (aCons (xVar 2) (aCons (xMth "count" (xVar 3) (aCons (xVar 5) (aNil))) (aNil)))))) (aNil)))
def b_census_of : SM := sSeq s_census_of_0 (sSeq s_census_of_1 (sNil))
def s_room_of_0 : SM := sAsg (.name 2) (xCall "types_of" (aCons (xVar 0) (aNil)))
def s_room_of_1 : SM := sAsg (.name 3) (xLst (lComp2 (iArg zipD (aCons (xVar 2) (aCons (xVar 1) (aNil)))) (.tup [4, 5]) [4, 5, 6] mYes (iArg rng1 (aCons (xVar 5) (aNil))) (.name 6) mYes (xVar 4)))
def s_room_of_2 : SM := sAsg (.name 7) (xLst (lComp (iOf (xVar 0)) (.name 9) [9] (mYes) (xTup (aCons (xVar 9) (aCons (xApp tupOf (aCons (xLst (lComp (iArg rng1 (aCons (xApp lenD (aCons (xVar 3) (aNil))) (aNil))) (.name 8) [8] (mBl (xBin inD (xVar 9) (xIx (xVar 3) (xVar 8)))) (xVar 8))) (aNil))) (aNil))))))
def s_room_of_3 : SM := sRet (xTup (aCons (xApp lenD (aCons (xVar 3) (aNil))) (aCons (xApp tupOf (aCons (xVar 7) (aNil))) (aNil))))
def b_room_of : SM := sSeq s_room_of_0 (sSeq s_room_of_1 (sSeq s_room_of_2 (sSeq s_room_of_3 (sNil))))
def s__law_spread_2_b : SM := sSeq (sAsg (.name 1) (xBin modD (xApp intOf (aCons (xBin addD (xBin addD (xBin mulX (xVar 1) (xC (.int 48271))) (xC (.int 12345))) (xVar 3)) (aNil))) (xC (.int 2147483647)))) (sSeq (sAsg (.name 2) (xBin addD (xBin mulX (xVar 2) (xC (.int 2147483647))) (xVar 1))) (sNil))
def s__law_spread_0 : SM := sAsg (.name 1) (xBin modD (xApp intOf (aCons (xVar 0) (aNil))) (xC (.int 2147483647)))
def s__law_spread_1 : SM := sAsg (.name 2) (xC (.int 1))
def s__law_spread_2 : SM := sFor (iArg rng1 (aCons (xC (.int 4)) (aNil))) (.name 3) s__law_spread_2_b
def s__law_spread_3 : SM := sRet (xVar 2)
def b__law_spread : SM := sSeq s__law_spread_0 (sSeq s__law_spread_1 (sSeq s__law_spread_2 (sSeq s__law_spread_3 (sNil))))
def s__law_draw_0 : SM := sIf (mAnd (mBl (xBin leD (xIx (xVar 0) (xC (.int 2))) (xC (.int 0)))) (mBl (xBin ltD (xIx (xVar 0) (xC (.int 1))) (xApp lenD (aCons (xIx (xVar 0) (xC (.int 0))) (aNil)))))) (sSeq (sAsg (.name 2) (xIx (xIx (xVar 0) (xC (.int 0))) (xIx (xVar 0) (xC (.int 1))))) (sSeq (sPool (xVar 0) (xC (.int 1)) (xBin addD (xIx (xVar 0) (xC (.int 1))) (xC (.int 1)))) (sSeq (sPool (xVar 0) (xC (.int 2)) (xVar 2)) (sSeq (sIf (mBl (xBin ltD (xVar 2) (xC (.int 1000000000000000000)))) (sSeq (sPool (xVar 0) (xC (.int 2)) (xCall "_law_spread" (aCons (xVar 2) (aNil)))) (sNil)) (sNil)) (sNil))))) (sNil)
def s__law_draw_1 : SM := sPool (xVar 0) (xC (.int 3)) (xBin addD (xIx (xVar 0) (xC (.int 3))) (xC (.int 1)))
def s__law_draw_2 : SM := sIf (mBl (xBin leD (xIx (xVar 0) (xC (.int 2))) (xC (.int 0)))) (sSeq (sAsg (.name 3) (xBin modD (xApp intOf (aCons (xBin addD (xBin addD (xBin mulX (xIx (xVar 0) (xC (.int 4))) (xC (.int 48271))) (xBin mulX (xIx (xVar 0) (xC (.int 3))) (xC (.int 69621)))) (xC (.int 1))) (aNil))) (xC (.int 2147483647)))) (sSeq (sAsg (.name 3) (xBin modD (xApp intOf (aCons (xBin addD (xBin mulX (xVar 3) (xC (.int 16807))) (xIx (xVar 0) (xC (.int 3)))) (aNil))) (xC (.int 2147483629)))) (sSeq (sRet (xBin modD (xBin divD (xVar 3) (xC (.int 5))) (xVar 1))) (sNil)))) (sNil)
def s__law_draw_3 : SM := sAsg (.name 4) (xBin modD (xApp intOf (aCons (xIx (xVar 0) (xC (.int 2))) (aNil))) (xVar 1))
def s__law_draw_4 : SM := sPool (xVar 0) (xC (.int 2)) (xBin divD (xIx (xVar 0) (xC (.int 2))) (xVar 1))
def s__law_draw_5 : SM := sRet (xVar 4)
def b__law_draw : SM := sSeq s__law_draw_0 (sSeq s__law_draw_1 (sSeq s__law_draw_2 (sSeq s__law_draw_3 (sSeq s__law_draw_4 (sSeq s__law_draw_5 (sNil))))))
def s__law_pick_0 : SM := sRet (xIx (xVar 1) (xCall "_law_draw" (aCons (xVar 0) (aCons (xApp lenD (aCons (xVar 1) (aNil))) (aNil)))))
def b__law_pick : SM := sSeq s__law_pick_0 (sNil)
def s__law_formula_0 : SM := sAsg (.name 4) (xCall "_law_draw" (aCons (xVar 0) (aCons (xIf (mBl (xBin gtD (xVar 3) (xC (.int 0)))) (xC (.int 12)) (xC (.int 3))) (aNil))))
def s__law_formula_1 : SM := sIf (mBl (xBin ltD (xVar 4) (xC (.int 3)))) (sSeq (sIf (mAnd (mBl (xBin eqD (xVar 4) (xC (.int 0)))) (mBl (xBin eqD (xCall "_law_draw" (aCons (xVar 0) (aCons (xC (.int 2)) (aNil)))) (xC (.int 0))))) (sSeq (sRet (xTup (aCons (xC (.str "same")) (aCons (xCall "_law_pick" (aCons (xVar 0) (aCons (xVar 1) (aNil)))) (aCons (xCall "_law_pick" (aCons (xVar 0) (aCons (xVar 1) (aNil)))) (aNil)))))) (sNil)) (sNil)) (sSeq (sRet (xTup (aCons (xC (.str "is")) (aCons (xCall "_law_pick" (aCons (xVar 0) (aCons (xVar 2) (aNil)))) (aCons (xCall "_law_pick" (aCons (xVar 0) (aCons (xVar 1) (aNil)))) (aNil)))))) (sNil))) (sNil)
def s__law_formula_2 : SM := sIf (mBl (xBin ltD (xVar 4) (xC (.int 5)))) (sSeq (sRet (xTup (aCons (xC (.str "not")) (aCons (xCall "_law_formula" (aCons (xVar 0) (aCons (xVar 1) (aCons (xVar 2) (aCons (xBin subD (xVar 3) (xC (.int 1))) (aNil)))))) (aNil))))) (sNil)) (sNil)
def s__law_formula_3 : SM := sIf (mBl (xBin ltD (xVar 4) (xC (.int 8)))) (sSeq (sAsg (.name 5) (xCall "_law_formula" (aCons (xVar 0) (aCons (xVar 1) (aCons (xVar 2) (aCons (xBin subD (xVar 3) (xC (.int 1))) (aNil))))))) (sSeq (sRet (xTup (aCons (xCall "_law_pick" (aCons (xVar 0) (aCons (xLst (lDisp (aCons (xC (.str "both")) (aCons (xC (.str "either")) (aNil))))) (aNil)))) (aCons (xVar 5) (aCons (xCall "_law_formula" (aCons (xVar 0) (aCons (xVar 1) (aCons (xVar 2) (aCons (xBin subD (xVar 3) (xC (.int 1))) (aNil)))))) (aNil)))))) (sNil))) (sNil)
def s__law_formula_4 : SM := sRet (xCall "_law_bound" (aCons (xVar 0) (aCons (xVar 1) (aCons (xVar 2) (aCons (xVar 3) (aNil))))))
def b__law_formula : SM := sSeq s__law_formula_0 (sSeq s__law_formula_1 (sSeq s__law_formula_2 (sSeq s__law_formula_3 (sSeq s__law_formula_4 (sNil)))))
def s__law_bound_0 : SM := sAsg (.name 4) (xCall "_law_pick" (aCons (xVar 0) (aCons (xLst (lDisp (aCons (xC (.str "x")) (aCons (xC (.str "y")) (aCons (xC (.str "z")) (aNil)))))) (aNil))))
def s__law_bound_1 : SM := sAsg (.name 5) (xCall "_law_formula" (aCons (xVar 0) (aCons (xBin addD (xVar 1) (xLst (lDisp (aCons (xVar 4) (aNil))))) (aCons (xVar 2) (aCons (xBin subD (xVar 3) (xC (.int 1))) (aNil))))))
def s__law_bound_2 : SM := sAsg (.name 6) (xCall "_law_draw" (aCons (xVar 0) (aCons (xC (.int 7)) (aNil))))
def s__law_bound_3 : SM := sIf (mBl (xBin ltD (xVar 6) (xC (.int 3)))) (sSeq (sRet (xTup (aCons (xC (.str "some")) (aCons (xVar 4) (aCons (xVar 5) (aNil)))))) (sNil)) (sNil)
def s__law_bound_4 : SM := sRet (xIf (mBl (xBin ltD (xVar 6) (xC (.int 5)))) (xTup (aCons (xC (.str "each")) (aCons (xVar 4) (aCons (xVar 5) (aNil))))) (xTup (aCons (xC (.str "many")) (aCons (xBin addD (xCall "_law_draw" (aCons (xVar 0) (aCons (xC (.int 3)) (aNil)))) (xC (.int 1))) (aCons (xVar 4) (aCons (xVar 5) (aNil)))))))
def b__law_bound : SM := sSeq s__law_bound_0 (sSeq s__law_bound_1 (sSeq s__law_bound_2 (sSeq s__law_bound_3 (sSeq s__law_bound_4 (sNil)))))
def s__law_inner_0 : SM := sIf (mBl (xBin inD (xIx (xVar 0) (xC (.int 0))) (xTup (aCons (xC (.str "true")) (aCons (xC (.str "is")) (aCons (xC (.str "same")) (aNil))))))) (sSeq (sRet (xTup (aNil))) (sNil)) (sNil)
def s__law_inner_1 : SM := sRet (xIf (mBl (xBin inD (xIx (xVar 0) (xC (.int 0))) (xTup (aCons (xC (.str "not")) (aCons (xC (.str "both")) (aCons (xC (.str "either")) (aNil))))))) (xSli (xVar 0) (oSome (xC (.int 1))) (oNone)) (xSli (xVar 0) (oSome (xBin subD (xApp lenD (aCons (xVar 0) (aNil))) (xC (.int 1)))) (oNone)))
def b__law_inner : SM := sSeq s__law_inner_0 (sSeq s__law_inner_1 (sNil))
def s__law_rank_0 : SM := sAsg (.name 1) (xApp maxD (aCons (xBin addD (xLst (lDisp (aCons (xC (.int 0)) (aNil)))) (xLst (lComp (iOf (xCall "_law_inner" (aCons (xVar 0) (aNil)))) (.name 2) [2] (mYes) (xCall "_law_rank" (aCons (xVar 2) (aNil)))))) (aNil)))
def s__law_rank_1 : SM := sRet (xBin addD (xVar 1) (xIf (mBl (xBin inD (xIx (xVar 0) (xC (.int 0))) (xTup (aCons (xC (.str "some")) (aCons (xC (.str "each")) (aNil)))))) (xC (.int 1)) (xIf (mBl (xBin eqD (xIx (xVar 0) (xC (.int 0))) (xC (.str "many")))) (xIx (xVar 0) (xC (.int 1))) (xC (.int 0)))))
def b__law_rank : SM := sSeq s__law_rank_0 (sSeq s__law_rank_1 (sNil))
def s__law_sentence_0 : SM := sAsg (.name 3) (xCall "_law_bound" (aCons (xVar 0) (aCons (xLst (lDisp (aNil))) (aCons (xVar 1) (aCons (xVar 2) (aNil))))))
def s__law_sentence_1 : SM := sIf (mBl (xBin eqD (xCall "_law_draw" (aCons (xVar 0) (aCons (xC (.int 5)) (aNil)))) (xC (.int 0)))) (sSeq (sAsg (.name 3) (xTup (aCons (xCall "_law_pick" (aCons (xVar 0) (aCons (xLst (lDisp (aCons (xC (.str "both")) (aCons (xC (.str "either")) (aNil))))) (aNil)))) (aCons (xVar 3) (aCons (xCall "_law_bound" (aCons (xVar 0) (aCons (xLst (lDisp (aNil))) (aCons (xVar 1) (aCons (xBin subD (xVar 2) (xC (.int 1))) (aNil)))))) (aNil)))))) (sNil)) (sNil)
def s__law_sentence_2 : SM := sAsg (.name 3) (xIf (mBl (xBin eqD (xCall "_law_draw" (aCons (xVar 0) (aCons (xC (.int 5)) (aNil)))) (xC (.int 0)))) (xTup (aCons (xC (.str "not")) (aCons (xVar 3) (aNil)))) (xVar 3))
def s__law_sentence_3 : SM := sRet (xIf (mBl (xBin ltD (xCall "_law_rank" (aCons (xVar 3) (aNil))) (xC (.int 4)))) (xVar 3) (xTup (aCons (xC (.str "many")) (aCons (xCall "_law_draw" (aCons (xVar 0) (aCons (xC (.int 4)) (aNil)))) (aCons (xC (.str "x")) (aCons (xTup (aCons (xC (.str "is")) (aCons (xCall "_law_pick" (aCons (xVar 0) (aCons (xVar 1) (aNil)))) (aCons (xC (.str "x")) (aNil))))) (aNil)))))))
def b__law_sentence : SM := sSeq s__law_sentence_0 (sSeq s__law_sentence_1 (sSeq s__law_sentence_2 (sSeq s__law_sentence_3 (sNil))))
def s__law_subsets_1_b : SM := sSeq (sAsg (.name 1) (xBin addD (xVar 1) (xLst (lComp (iOf (xVar 1)) (.name 3) [3] (mYes) (xBin addD (xVar 3) (xTup (aCons (xVar 2) (aNil)))))))) (sNil)
def s__law_subsets_0 : SM := sAsg (.name 1) (xLst (lDisp (aCons (xTup (aNil)) (aNil))))
def s__law_subsets_1 : SM := sFor (iArg rng1 (aCons (xVar 0) (aNil))) (.name 2) s__law_subsets_1_b
def s__law_subsets_2 : SM := sRet (xVar 1)
def b__law_subsets : SM := sSeq s__law_subsets_0 (sSeq s__law_subsets_1 (sSeq s__law_subsets_2 (sNil)))
def s__law_types_0 : SM := sRet (xApp sortD (aCons (xLst (lComp (iOf (xCall "_law_subsets" (aCons (xApp lenD (aCons (xVar 0) (aNil))) (aNil)))) (.name 2) [2] (mYes) (xApp tupOf (aCons (xLst (lComp (iOf (xVar 2)) (.name 1) [1] (mYes) (xIx (xVar 0) (xVar 1)))) (aNil))))) (aNil)))
def b__law_types : SM := sSeq s__law_types_0 (sNil)
def s__law_census_room_1_b : SM := sSeq (sAsg (.name 3) (xBin addD (xVar 3) (xBin mulX (xLst (lDisp (aCons (xIx (xVar 2) (xVar 4)) (aNil)))) (xIx (xVar 1) (xVar 4))))) (sNil)
def s__law_census_room_0 : SM := sAsg (.tup [2, 3]) (xTup (aCons (xCall "_law_types" (aCons (xVar 0) (aNil))) (aCons (xLst (lDisp (aNil))) (aNil))))
def s__law_census_room_1 : SM := sFor (iArg rng1 (aCons (xApp lenD (aCons (xVar 2) (aNil))) (aNil))) (.name 4) s__law_census_room_1_b
def s__law_census_room_2 : SM := sAsg (.name 5) (xLst (lComp (iOf (xVar 0)) (.name 7) [7] (mYes) (xTup (aCons (xVar 7) (aCons (xApp tupOf (aCons (xLst (lComp (iArg rng1 (aCons (xApp lenD (aCons (xVar 3) (aNil))) (aNil))) (.name 6) [6] (mBl (xBin inD (xVar 7) (xIx (xVar 3) (xVar 6)))) (xVar 6))) (aNil))) (aNil))))))
def s__law_census_room_3 : SM := sRet (xTup (aCons (xApp lenD (aCons (xVar 3) (aNil))) (aCons (xApp tupOf (aCons (xVar 5) (aNil))) (aNil))))
def b__law_census_room : SM := sSeq s__law_census_room_0 (sSeq s__law_census_room_1 (sSeq s__law_census_room_2 (sSeq s__law_census_room_3 (sNil))))
def s__law_things_0 : SM := sRet (xIf (mBl (xBin inD (xVar 1) (xApp dictD (aCons (xIx (xVar 0) (xC (.int 1))) (aNil))))) (xIx (xApp dictD (aCons (xIx (xVar 0) (xC (.int 1))) (aNil))) (xVar 1)) (xTup (aNil)))
def b__law_things : SM := sSeq s__law_things_0 (sNil)
def s__law_so_7_b : SM := sSeq (sPut 9 (vDic dictL (aCons (xVar 2) (aNil)))) (sSeq (sKey 9 (xVar 6) (xVar 8)) (sSeq (sFrz [9] (sAsg (.name 7) (xBin addD (xVar 7) (xIf (mTru (xCall "_law_so" (aCons (xVar 0) (aCons (xIx (xVar 1) (xBin subD (xApp lenD (aCons (xVar 1) (aNil))) (xC (.int 1)))) (aCons (xVar 9) (aNil)))))) (xC (.int 1)) (xC (.int 0)))))) (sNil)))
def s__law_so_0 : SM := sAsg (.name 3) (xIx (xVar 1) (xC (.int 0)))
def s__law_so_1 : SM := sIf (mBl (xBin eqD (xVar 3) (xC (.str "true")))) (sSeq (sRet (xC (.bl true))) (sNil)) (sNil)
def s__law_so_2 : SM := sIf (mBl (xBin eqD (xVar 3) (xC (.str "is")))) (sSeq (sRet (xBin inD (xIx (xVar 2) (xIx (xVar 1) (xC (.int 2)))) (xCall "_law_things" (aCons (xVar 0) (aCons (xIx (xVar 1) (xC (.int 1))) (aNil)))))) (sNil)) (sNil)
def s__law_so_3 : SM := sIf (mBl (xBin eqD (xVar 3) (xC (.str "same")))) (sSeq (sRet (xBin eqD (xIx (xVar 2) (xIx (xVar 1) (xC (.int 1)))) (xIx (xVar 2) (xIx (xVar 1) (xC (.int 2)))))) (sNil)) (sNil)
def s__law_so_4 : SM := sIf (mBl (xBin eqD (xVar 3) (xC (.str "not")))) (sSeq (sRet (xNot (xCall "_law_so" (aCons (xVar 0) (aCons (xIx (xVar 1) (xC (.int 1))) (aCons (xVar 2) (aNil))))))) (sNil)) (sNil)
def s__law_so_5 : SM := sIf (mBl (xBin inD (xVar 3) (xTup (aCons (xC (.str "both")) (aCons (xC (.str "either")) (aNil)))))) (sSeq (sPar 4 5 (vSh (xCall "_law_so" (aCons (xVar 0) (aCons (xIx (xVar 1) (xC (.int 1))) (aCons (xVar 2) (aNil)))))) (vSh (xCall "_law_so" (aCons (xVar 0) (aCons (xIx (xVar 1) (xC (.int 2))) (aCons (xVar 2) (aNil))))))) (sSeq (sRet (xIf (mBl (xBin eqD (xVar 3) (xC (.str "both")))) (xAnd (xVar 4) (xVar 5)) (xOr (xVar 4) (xVar 5)))) (sNil))) (sNil)
def s__law_so_6 : SM := sPar 6 7 (vSh (xIx (xVar 1) (xBin subD (xApp lenD (aCons (xVar 1) (aNil))) (xC (.int 2))))) (vSh (xC (.int 0)))
def s__law_so_7 : SM := sFor (iArg rng1 (aCons (xIx (xVar 0) (xC (.int 0))) (aNil))) (.name 8) s__law_so_7_b
def s__law_so_8 : SM := sRet (xIf (mBl (xBin eqD (xVar 3) (xC (.str "some")))) (xBin gtD (xVar 7) (xC (.int 0))) (xIf (mBl (xBin eqD (xVar 3) (xC (.str "each")))) (xBin eqD (xVar 7) (xIx (xVar 0) (xC (.int 0)))) (xBin geD (xVar 7) (xIx (xVar 1) (xC (.int 1))))))
def b__law_so : SM := sSeq s__law_so_0 (sSeq s__law_so_1 (sSeq s__law_so_2 (sSeq s__law_so_3 (sSeq s__law_so_4 (sSeq s__law_so_5 (sSeq s__law_so_6 (sSeq s__law_so_7 (sSeq s__law_so_8 (sNil)))))))))
def s__law_holds_0 : SM := sRet (xCall "_law_so" (aCons (xVar 0) (aCons (xVar 1) (aCons (xC (.dic [] [])) (aNil)))))
def b__law_holds : SM := sSeq s__law_holds_0 (sNil)
def s__law_turn_2_b : SM := sSeq (sApp 3 (xPopAt 2 (xCall "_law_draw" (aCons (xVar 0) (aCons (xLenO 2) (aNil)))))) (sNil)
def s__law_turn_0 : SM := sPut 2 (vOwn (lApp listX (aCons (xApp rngD (aCons (xVar 1) (aNil))) (aNil))))
def s__law_turn_1 : SM := sPut 3 (vOwn (lDisp (aNil)))
def s__law_turn_2 : SM := sFor (iArg rng1 (aCons (xVar 1) (aNil))) (.name 4) s__law_turn_2_b
def s__law_turn_3 : SM := sFrz [3] (sRet (xApp tupOf (aCons (xVar 3) (aNil))))
def b__law_turn : SM := sSeq s__law_turn_0 (sSeq s__law_turn_1 (sSeq s__law_turn_2 (sSeq s__law_turn_3 (sNil))))
def s_law_1_b : SM := sSeq (sAsg (.name 4) (xCall "_law_sentence" (aCons (xVar 1) (aCons (xVar 2) (aCons (xC (.int 4)) (aNil)))))) (sSeq (sAsg (.name 5) (xCall "rank_of" (aCons (xVar 4) (aNil)))) (sSeq (sAsg (.name 6) (xCall "_law_types" (aCons (xVar 2) (aNil)))) (sSeq (sAsg (.name 7) (xBin addD (xApp tupOf (aCons (xLst (lComp (iOf (xSli (xVar 6) (oNone) (oSome (xUn negD (xC (.int 1)))))) (.name 8) [8] (mYes) (xCall "_law_draw" (aCons (xVar 1) (aCons (xC (.int 5)) (aNil)))))) (aNil))) (xTup (aCons (xBin addD (xC (.int 1)) (xCall "_law_draw" (aCons (xVar 1) (aCons (xC (.int 4)) (aNil))))) (aNil))))) (sSeq (sAsg (.name 9) (xCall "_law_census_room" (aCons (xVar 2) (aCons (xVar 7) (aNil))))) (sSeq (sAsg (.name 10) (xCall "room_of" (aCons (xVar 2) (aCons (xCall "census_of" (aCons (xVar 9) (aCons (xVar 2) (aCons (xApp maxD (aCons (xC (.int 1)) (aCons (xVar 5) (aNil)))) (aNil))))) (aNil))))) (sSeq (sAsg (.name 11) (xApp tupOf (aCons (xLst (lComp (iOf (xVar 7)) (.name 12) [12] (mYes) (xBin addD (xVar 12) (xIf (mBl (xBin geD (xVar 12) (xApp maxD (aCons (xC (.int 1)) (aCons (xVar 5) (aNil)))))) (xCall "_law_draw" (aCons (xVar 1) (aCons (xC (.int 3)) (aNil)))) (xC (.int 0)))))) (aNil)))) (sSeq (sAsg (.name 13) (xCall "_law_holds" (aCons (xVar 9) (aCons (xVar 4) (aNil))))) (sSeq (sIf (mOr (mBl (xBin neX (xCall "holds" (aCons (xVar 9) (aCons (xVar 4) (aNil)))) (xVar 13))) (mOr (mBl (xBin neX (xCall "holds" (aCons (xVar 10) (aCons (xVar 4) (aNil)))) (xVar 13))) (mBl (xBin neX (xCall "_law_holds" (aCons (xVar 10) (aCons (xVar 4) (aNil)))) (xVar 13))))) (sSeq (sRet (xC (.bl false))) (sNil)) (sNil)) (sSeq (sIf (mAnd (mBl (xBin ltD (xApp sumD (aCons (xApp listD (aCons (xVar 11) (aNil))) (aNil))) (xC (.int 10)))) (mOr (mBl (xBin neX (xCall "holds" (aCons (xCall "_law_census_room" (aCons (xVar 2) (aCons (xVar 11) (aNil)))) (aCons (xVar 4) (aNil)))) (xVar 13))) (mBl (xBin neX (xCall "census_of" (aCons (xCall "_law_census_room" (aCons (xVar 2) (aCons (xVar 11) (aNil)))) (aCons (xVar 2) (aCons (xVar 5) (aNil))))) (xCall "census_of" (aCons (xVar 9) (aCons (xVar 2) (aCons (xVar 5) (aNil))))))))) (sSeq (sRet (xC (.bl false))) (sNil)) (sNil)) (sSeq (sAsg (.name 14) (xCall "_law_turn" (aCons (xVar 1) (aCons (xIx (xVar 9) (xC (.int 0))) (aNil))))) (sSeq (sIf (mBl (xBin neX (xCall "holds" (aCons (xCall "renumbered" (aCons (xVar 9) (aCons (xVar 14) (aNil)))) (aCons (xVar 4) (aNil)))) (xVar 13))) (sSeq (sRet (xC (.bl false))) (sNil)) (sNil)) (sNil))))))))))))
def s_law_0 : SM := sAsg (.name 2) (xSli (xLst (lDisp (aCons (xC (.str "k")) (aCons (xC (.str "m")) (aNil))))) (oNone) (oSome (xBin addD (xC (.int 1)) (xCall "_law_draw" (aCons (xVar 1) (aCons (xC (.int 2)) (aNil)))))))
def s_law_1 : SM := sFor (iArg rng1 (aCons (xC (.int 3)) (aNil))) (.name 3) s_law_1_b
def s_law_2 : SM := sRet (xC (.bl true))
def b_law : SM := sSeq s_law_0 (sSeq s_law_1 (sSeq s_law_2 (sNil)))
theorem body_inner_of : G.body i_inner_of = some b_inner_of := by kernel_rfl
theorem run_inner_of (k : Nat) (ds S : List D) : G.run (k + 1) "inner_of" ds S = runB 2 (b_inner_of (G.run k)) ds S := by
  show ((G.find "inner_of").bind fun d => (G.body d).bind fun f => runB d.N.length (f (G.run k)) ds S) = _
  rw [show G.find "inner_of" = some i_inner_of by kernel_rfl]
  show ((G.body i_inner_of).bind fun f => runB i_inner_of.N.length (f (G.run k)) ds S) = _
  rw [body_inner_of]
  rfl
theorem body_rank_of : G.body i_rank_of = some b_rank_of := by kernel_rfl
theorem run_rank_of (k : Nat) (ds S : List D) : G.run (k + 1) "rank_of" ds S = runB 4 (b_rank_of (G.run k)) ds S := by
  show ((G.find "rank_of").bind fun d => (G.body d).bind fun f => runB d.N.length (f (G.run k)) ds S) = _
  rw [show G.find "rank_of" = some i_rank_of by kernel_rfl]
  show ((G.body i_rank_of).bind fun f => runB i_rank_of.N.length (f (G.run k)) ds S) = _
  rw [body_rank_of]
  rfl
theorem body_things_of : G.body i_things_of = some b_things_of := by kernel_rfl
theorem run_things_of (k : Nat) (ds S : List D) : G.run (k + 1) "things_of" ds S = runB 2 (b_things_of (G.run k)) ds S := by
  show ((G.find "things_of").bind fun d => (G.body d).bind fun f => runB d.N.length (f (G.run k)) ds S) = _
  rw [show G.find "things_of" = some i_things_of by kernel_rfl]
  show ((G.body i_things_of).bind fun f => runB i_things_of.N.length (f (G.run k)) ds S) = _
  rw [body_things_of]
  rfl
theorem body_is_so : G.body i_is_so = some b_is_so := by kernel_rfl
theorem run_is_so (k : Nat) (ds S : List D) : G.run (k + 1) "is_so" ds S = runB 7 (b_is_so (G.run k)) ds S := by
  show ((G.find "is_so").bind fun d => (G.body d).bind fun f => runB d.N.length (f (G.run k)) ds S) = _
  rw [show G.find "is_so" = some i_is_so by kernel_rfl]
  show ((G.body i_is_so).bind fun f => runB i_is_so.N.length (f (G.run k)) ds S) = _
  rw [body_is_so]
  rfl
theorem body_holds : G.body i_holds = some b_holds := by kernel_rfl
theorem run_holds (k : Nat) (ds S : List D) : G.run (k + 1) "holds" ds S = runB 2 (b_holds (G.run k)) ds S := by
  show ((G.find "holds").bind fun d => (G.body d).bind fun f => runB d.N.length (f (G.run k)) ds S) = _
  rw [show G.find "holds" = some i_holds by kernel_rfl]
  show ((G.body i_holds).bind fun f => runB i_holds.N.length (f (G.run k)) ds S) = _
  rw [body_holds]
  rfl
theorem body_renumbered : G.body i_renumbered = some b_renumbered := by kernel_rfl
theorem run_renumbered (k : Nat) (ds S : List D) : G.run (k + 1) "renumbered" ds S = runB 6 (b_renumbered (G.run k)) ds S := by
  show ((G.find "renumbered").bind fun d => (G.body d).bind fun f => runB d.N.length (f (G.run k)) ds S) = _
  rw [show G.find "renumbered" = some i_renumbered by kernel_rfl]
  show ((G.body i_renumbered).bind fun f => runB i_renumbered.N.length (f (G.run k)) ds S) = _
  rw [body_renumbered]
  rfl
theorem body_types_of : G.body i_types_of = some b_types_of := by kernel_rfl
theorem run_types_of (k : Nat) (ds S : List D) : G.run (k + 1) "types_of" ds S = runB 4 (b_types_of (G.run k)) ds S := by
  show ((G.find "types_of").bind fun d => (G.body d).bind fun f => runB d.N.length (f (G.run k)) ds S) = _
  rw [show G.find "types_of" = some i_types_of by kernel_rfl]
  show ((G.body i_types_of).bind fun f => runB i_types_of.N.length (f (G.run k)) ds S) = _
  rw [body_types_of]
  rfl
theorem body_type_in : G.body i_type_in = some b_type_in := by kernel_rfl
theorem run_type_in (k : Nat) (ds S : List D) : G.run (k + 1) "type_in" ds S = runB 4 (b_type_in (G.run k)) ds S := by
  show ((G.find "type_in").bind fun d => (G.body d).bind fun f => runB d.N.length (f (G.run k)) ds S) = _
  rw [show G.find "type_in" = some i_type_in by kernel_rfl]
  show ((G.body i_type_in).bind fun f => runB i_type_in.N.length (f (G.run k)) ds S) = _
  rw [body_type_in]
  rfl
theorem body_census_of : G.body i_census_of = some b_census_of := by kernel_rfl
theorem run_census_of (k : Nat) (ds S : List D) : G.run (k + 1) "census_of" ds S = runB 6 (b_census_of (G.run k)) ds S := by
  show ((G.find "census_of").bind fun d => (G.body d).bind fun f => runB d.N.length (f (G.run k)) ds S) = _
  rw [show G.find "census_of" = some i_census_of by kernel_rfl]
  show ((G.body i_census_of).bind fun f => runB i_census_of.N.length (f (G.run k)) ds S) = _
  rw [body_census_of]
  rfl
theorem body_room_of : G.body i_room_of = some b_room_of := by kernel_rfl
theorem run_room_of (k : Nat) (ds S : List D) : G.run (k + 1) "room_of" ds S = runB 10 (b_room_of (G.run k)) ds S := by
  show ((G.find "room_of").bind fun d => (G.body d).bind fun f => runB d.N.length (f (G.run k)) ds S) = _
  rw [show G.find "room_of" = some i_room_of by kernel_rfl]
  show ((G.body i_room_of).bind fun f => runB i_room_of.N.length (f (G.run k)) ds S) = _
  rw [body_room_of]
  rfl
theorem body__law_spread : G.body i__law_spread = some b__law_spread := by kernel_rfl
theorem run__law_spread (k : Nat) (ds S : List D) : G.run (k + 1) "_law_spread" ds S = runB 4 (b__law_spread (G.run k)) ds S := by
  show ((G.find "_law_spread").bind fun d => (G.body d).bind fun f => runB d.N.length (f (G.run k)) ds S) = _
  rw [show G.find "_law_spread" = some i__law_spread by kernel_rfl]
  show ((G.body i__law_spread).bind fun f => runB i__law_spread.N.length (f (G.run k)) ds S) = _
  rw [body__law_spread]
  rfl
theorem body__law_draw : G.body i__law_draw = some b__law_draw := by kernel_rfl
theorem run__law_draw (k : Nat) (ds S : List D) : G.run (k + 1) "_law_draw" ds S = runB 5 (b__law_draw (G.run k)) ds S := by
  show ((G.find "_law_draw").bind fun d => (G.body d).bind fun f => runB d.N.length (f (G.run k)) ds S) = _
  rw [show G.find "_law_draw" = some i__law_draw by kernel_rfl]
  show ((G.body i__law_draw).bind fun f => runB i__law_draw.N.length (f (G.run k)) ds S) = _
  rw [body__law_draw]
  rfl
theorem body__law_pick : G.body i__law_pick = some b__law_pick := by kernel_rfl
theorem run__law_pick (k : Nat) (ds S : List D) : G.run (k + 1) "_law_pick" ds S = runB 2 (b__law_pick (G.run k)) ds S := by
  show ((G.find "_law_pick").bind fun d => (G.body d).bind fun f => runB d.N.length (f (G.run k)) ds S) = _
  rw [show G.find "_law_pick" = some i__law_pick by kernel_rfl]
  show ((G.body i__law_pick).bind fun f => runB i__law_pick.N.length (f (G.run k)) ds S) = _
  rw [body__law_pick]
  rfl
theorem body__law_formula : G.body i__law_formula = some b__law_formula := by kernel_rfl
theorem run__law_formula (k : Nat) (ds S : List D) : G.run (k + 1) "_law_formula" ds S = runB 6 (b__law_formula (G.run k)) ds S := by
  show ((G.find "_law_formula").bind fun d => (G.body d).bind fun f => runB d.N.length (f (G.run k)) ds S) = _
  rw [show G.find "_law_formula" = some i__law_formula by kernel_rfl]
  show ((G.body i__law_formula).bind fun f => runB i__law_formula.N.length (f (G.run k)) ds S) = _
  rw [body__law_formula]
  rfl
theorem body__law_bound : G.body i__law_bound = some b__law_bound := by kernel_rfl
theorem run__law_bound (k : Nat) (ds S : List D) : G.run (k + 1) "_law_bound" ds S = runB 7 (b__law_bound (G.run k)) ds S := by
  show ((G.find "_law_bound").bind fun d => (G.body d).bind fun f => runB d.N.length (f (G.run k)) ds S) = _
  rw [show G.find "_law_bound" = some i__law_bound by kernel_rfl]
  show ((G.body i__law_bound).bind fun f => runB i__law_bound.N.length (f (G.run k)) ds S) = _
  rw [body__law_bound]
  rfl
theorem body__law_inner : G.body i__law_inner = some b__law_inner := by kernel_rfl
theorem run__law_inner (k : Nat) (ds S : List D) : G.run (k + 1) "_law_inner" ds S = runB 1 (b__law_inner (G.run k)) ds S := by
  show ((G.find "_law_inner").bind fun d => (G.body d).bind fun f => runB d.N.length (f (G.run k)) ds S) = _
  rw [show G.find "_law_inner" = some i__law_inner by kernel_rfl]
  show ((G.body i__law_inner).bind fun f => runB i__law_inner.N.length (f (G.run k)) ds S) = _
  rw [body__law_inner]
  rfl
theorem body__law_rank : G.body i__law_rank = some b__law_rank := by kernel_rfl
theorem run__law_rank (k : Nat) (ds S : List D) : G.run (k + 1) "_law_rank" ds S = runB 3 (b__law_rank (G.run k)) ds S := by
  show ((G.find "_law_rank").bind fun d => (G.body d).bind fun f => runB d.N.length (f (G.run k)) ds S) = _
  rw [show G.find "_law_rank" = some i__law_rank by kernel_rfl]
  show ((G.body i__law_rank).bind fun f => runB i__law_rank.N.length (f (G.run k)) ds S) = _
  rw [body__law_rank]
  rfl
theorem body__law_sentence : G.body i__law_sentence = some b__law_sentence := by kernel_rfl
theorem run__law_sentence (k : Nat) (ds S : List D) : G.run (k + 1) "_law_sentence" ds S = runB 4 (b__law_sentence (G.run k)) ds S := by
  show ((G.find "_law_sentence").bind fun d => (G.body d).bind fun f => runB d.N.length (f (G.run k)) ds S) = _
  rw [show G.find "_law_sentence" = some i__law_sentence by kernel_rfl]
  show ((G.body i__law_sentence).bind fun f => runB i__law_sentence.N.length (f (G.run k)) ds S) = _
  rw [body__law_sentence]
  rfl
theorem body__law_subsets : G.body i__law_subsets = some b__law_subsets := by kernel_rfl
theorem run__law_subsets (k : Nat) (ds S : List D) : G.run (k + 1) "_law_subsets" ds S = runB 4 (b__law_subsets (G.run k)) ds S := by
  show ((G.find "_law_subsets").bind fun d => (G.body d).bind fun f => runB d.N.length (f (G.run k)) ds S) = _
  rw [show G.find "_law_subsets" = some i__law_subsets by kernel_rfl]
  show ((G.body i__law_subsets).bind fun f => runB i__law_subsets.N.length (f (G.run k)) ds S) = _
  rw [body__law_subsets]
  rfl
theorem body__law_types : G.body i__law_types = some b__law_types := by kernel_rfl
theorem run__law_types (k : Nat) (ds S : List D) : G.run (k + 1) "_law_types" ds S = runB 3 (b__law_types (G.run k)) ds S := by
  show ((G.find "_law_types").bind fun d => (G.body d).bind fun f => runB d.N.length (f (G.run k)) ds S) = _
  rw [show G.find "_law_types" = some i__law_types by kernel_rfl]
  show ((G.body i__law_types).bind fun f => runB i__law_types.N.length (f (G.run k)) ds S) = _
  rw [body__law_types]
  rfl
theorem body__law_census_room : G.body i__law_census_room = some b__law_census_room := by kernel_rfl
theorem run__law_census_room (k : Nat) (ds S : List D) : G.run (k + 1) "_law_census_room" ds S = runB 8 (b__law_census_room (G.run k)) ds S := by
  show ((G.find "_law_census_room").bind fun d => (G.body d).bind fun f => runB d.N.length (f (G.run k)) ds S) = _
  rw [show G.find "_law_census_room" = some i__law_census_room by kernel_rfl]
  show ((G.body i__law_census_room).bind fun f => runB i__law_census_room.N.length (f (G.run k)) ds S) = _
  rw [body__law_census_room]
  rfl
theorem body__law_things : G.body i__law_things = some b__law_things := by kernel_rfl
theorem run__law_things (k : Nat) (ds S : List D) : G.run (k + 1) "_law_things" ds S = runB 2 (b__law_things (G.run k)) ds S := by
  show ((G.find "_law_things").bind fun d => (G.body d).bind fun f => runB d.N.length (f (G.run k)) ds S) = _
  rw [show G.find "_law_things" = some i__law_things by kernel_rfl]
  show ((G.body i__law_things).bind fun f => runB i__law_things.N.length (f (G.run k)) ds S) = _
  rw [body__law_things]
  rfl
theorem body__law_so : G.body i__law_so = some b__law_so := by kernel_rfl
theorem run__law_so (k : Nat) (ds S : List D) : G.run (k + 1) "_law_so" ds S = runB 10 (b__law_so (G.run k)) ds S := by
  show ((G.find "_law_so").bind fun d => (G.body d).bind fun f => runB d.N.length (f (G.run k)) ds S) = _
  rw [show G.find "_law_so" = some i__law_so by kernel_rfl]
  show ((G.body i__law_so).bind fun f => runB i__law_so.N.length (f (G.run k)) ds S) = _
  rw [body__law_so]
  rfl
theorem body__law_holds : G.body i__law_holds = some b__law_holds := by kernel_rfl
theorem run__law_holds (k : Nat) (ds S : List D) : G.run (k + 1) "_law_holds" ds S = runB 2 (b__law_holds (G.run k)) ds S := by
  show ((G.find "_law_holds").bind fun d => (G.body d).bind fun f => runB d.N.length (f (G.run k)) ds S) = _
  rw [show G.find "_law_holds" = some i__law_holds by kernel_rfl]
  show ((G.body i__law_holds).bind fun f => runB i__law_holds.N.length (f (G.run k)) ds S) = _
  rw [body__law_holds]
  rfl
theorem body__law_turn : G.body i__law_turn = some b__law_turn := by kernel_rfl
theorem run__law_turn (k : Nat) (ds S : List D) : G.run (k + 1) "_law_turn" ds S = runB 5 (b__law_turn (G.run k)) ds S := by
  show ((G.find "_law_turn").bind fun d => (G.body d).bind fun f => runB d.N.length (f (G.run k)) ds S) = _
  rw [show G.find "_law_turn" = some i__law_turn by kernel_rfl]
  show ((G.body i__law_turn).bind fun f => runB i__law_turn.N.length (f (G.run k)) ds S) = _
  rw [body__law_turn]
  rfl
end Ip

set_option maxHeartbeats 4000000
namespace Ip
open PySem L2
local macro_rules | `(tactic| walk_at "ev") => `(tactic| simp -implicitDefEqProofs only [v_c, v_var, v_varK, v_bin, v_binK1, v_binK2, v_pairK, v_un, v_unK, v_app, v_appK, v_call, v_callK, v_nil, v_cons, v_consK1, v_consK2, v_tup, v_lst, v_lstK, v_disp, v_ix, v_ixK1, v_ixP, v_ixT, v_ixL, at0, at1, at2, at3, at4, v_bl, v_blK, v_tru, v_truK, v_truN, v_mnot, v_notK, v_mand, v_andT, v_andF, v_mor, v_orT, v_orF, v_yes, v_xand, v_xandT, v_xandF, v_xor, v_xorT, v_xorF, v_xnot, v_xnotK, v_xif, v_xifT, v_xifF, v_ch, v_chK1, v_chK2, v_chT, v_chF, v_chK4, v_sli, v_sliK1, v_sliK2, v_sliT, v_sliL, v_onone, v_osome, v_osoK, v_iof, v_iofT, v_iofL, v_iarg, v_snil, v_seq, v_seqN, v_seqR, v_seqB, v_seqC, v_sif, v_ifT, v_ifF, v_ret, v_retK, v_asg, v_asgN, v_asgT, v_put0, v_put1, v_bk, v_ct, v_pool, v_poolK1, v_poolK2, v_pool1, v_pool2, v_pool3, v_for, v_forK, v_for0, v_for1, v_putN, v_forK1, v_forN, v_forC, v_forB, v_forR, v_par3, v_par3K1, v_par3K2, v_par3K3, v_par, v_parK1, v_parK2, v_vsh, v_vshK, v_run, v_runR, v_runN, v_comp, v_put, v_putK, v_own, v_ownK, v_lapp, v_ladd, v_laddK1, v_laddK2, v_xo, v_xoK, v_sapp, v_sappK1, v_sappK2, v_sappK3, v_lenO, v_lenK1, v_frz, v_fold0, v_fold1, v_frzK, v_frzN, v_frozen1, v_frozen2, v_frozen3, v_mth, v_mthK1, v_mthK2, v_mulI, v_min, v_list1, v_list2, o_add, o_sub, o_mul, o_mod, o_div, o_lt, o_le, o_gt, o_ge, o_int, o_neg, o_lenL, o_lenT, o_eqI, o_eqS, o_eqB, o_neI, o_neS, o_neB, o_tupL, o_tupT, startE, ob_addL, ob_addT, ob_tupK, ob_dispK, v_star, v_starK1, v_starK2, v_starK3, v_starK3i, v_dict, v_dictK, v_pair0, v_pair1, v_pairK1, v_pairK2s, v_pairK3, v_fld, v_fldK, v_met, v_metK2, v_new, v_newK, v_rev, v_revT, v_revL, v_ext, v_extK1, v_extT, v_extL, ox_neI, ox_neS, ox_neB, ox_neNI, ox_neIN, atm2, atm3, atm4, at2c1, at3c1, at4c1, at3c2, at4c2, v_vdic, v_vdicD, v_key, v_keyK1, v_keyK2, v_keyK2i, str_inj, o_in1, o_in2, o_in3, String.reduceEq, v_listL, v_listT, Bool.or_true, Bool.true_or, Bool.or_false, Bool.false_or, Bool.and_true, Bool.true_and, Bool.and_false, Bool.false_and, wipeE, List.length_map, List.length_append, List.map_cons, List.map_nil, List.length_cons, List.length_nil, List.cons_append, List.nil_append, List.append_nil, List.getElem?_cons_zero, List.getElem?_cons_succ, List.set_cons_zero, List.set_cons_succ, List.replicate_succ, List.replicate_zero, Nat.reduceAdd, Nat.reduceSub, Nat.reduceLeDiff, Int.reduceNeg, Int.reducePow, Int.reduceLT, Int.reduceLE, Int.reduceNe, Int.reduceEq, Int.reduceAdd, nI, Int.reduceSub, Int.natAbs, ne_eq, not_false_eq_true, and_true, true_and, and_self, decide_true, decide_false, Nat.reduceLT, Nat.reduceEqDiff, reduceCtorEq, Bool.not_true, Bool.not_false, i_non_int, i_non_str, i_non_bool, i_non_tuple, i_non_list, n_non, nn_non, i_bl_int, i_bl_str, i_bl_bool, i_bl_tuple, i_bl_list, n_bl, nn_bl, i_int_int, i_int_str, i_int_bool, i_int_tuple, i_int_list, n_int, nn_int, i_str_int, i_str_str, i_str_bool, i_str_tuple, i_str_list, n_str, nn_str, i_tup_int, i_tup_str, i_tup_bool, i_tup_tuple, i_tup_list, n_tup, nn_tup, i_lst_int, i_lst_str, i_lst_bool, i_lst_tuple, i_lst_list, n_lst, nn_lst, i_dic_int, i_dic_str, i_dic_bool, i_dic_tuple, i_dic_list, n_dic, nn_dic])
local macro_rules | `(tactic| walk_at "evh") => `(tactic| simp -implicitDefEqProofs only [v_c, v_var, v_varK, v_bin, v_binK1, v_binK2, v_pairK, v_un, v_unK, v_app, v_appK, v_call, v_callK, v_nil, v_cons, v_consK1, v_consK2, v_tup, v_lst, v_lstK, v_disp, v_ix, v_ixK1, v_ixP, v_ixT, v_ixL, at0, at1, at2, at3, at4, v_bl, v_blK, v_tru, v_truK, v_truN, v_mnot, v_notK, v_mand, v_andT, v_andF, v_mor, v_orT, v_orF, v_yes, v_xand, v_xandT, v_xandF, v_xor, v_xorT, v_xorF, v_xnot, v_xnotK, v_xif, v_xifT, v_xifF, v_ch, v_chK1, v_chK2, v_chT, v_chF, v_chK4, v_sli, v_sliK1, v_sliK2, v_sliT, v_sliL, v_onone, v_osome, v_osoK, v_iof, v_iofT, v_iofL, v_iarg, v_snil, v_seq, v_seqN, v_seqR, v_seqB, v_seqC, v_sif, v_ifT, v_ifF, v_ret, v_retK, v_asg, v_asgN, v_asgT, v_put0, v_put1, v_bk, v_ct, v_pool, v_poolK1, v_poolK2, v_pool1, v_pool2, v_pool3, v_for, v_forK, v_for0, v_for1, v_putN, v_forK1, v_forN, v_forC, v_forB, v_forR, v_par3, v_par3K1, v_par3K2, v_par3K3, v_par, v_parK1, v_parK2, v_vsh, v_vshK, v_run, v_runR, v_runN, v_comp, v_put, v_putK, v_own, v_ownK, v_lapp, v_ladd, v_laddK1, v_laddK2, v_xo, v_xoK, v_sapp, v_sappK1, v_sappK2, v_sappK3, v_lenO, v_lenK1, v_frz, v_fold0, v_fold1, v_frzK, v_frzN, v_frozen1, v_frozen2, v_frozen3, v_mth, v_mthK1, v_mthK2, v_mulI, v_min, v_list1, v_list2, o_add, o_sub, o_mul, o_mod, o_div, o_lt, o_le, o_gt, o_ge, o_int, o_neg, o_lenL, o_lenT, o_eqI, o_eqS, o_eqB, o_neI, o_neS, o_neB, o_tupL, o_tupT, startE, ob_addL, ob_addT, ob_tupK, ob_dispK, v_star, v_starK1, v_starK2, v_starK3, v_starK3i, v_dict, v_dictK, v_pair0, v_pair1, v_pairK1, v_pairK2s, v_pairK3, v_fld, v_fldK, v_met, v_metK2, v_new, v_newK, v_rev, v_revT, v_revL, v_ext, v_extK1, v_extT, v_extL, ox_neI, ox_neS, ox_neB, ox_neNI, ox_neIN, atm2, atm3, atm4, at2c1, at3c1, at4c1, at3c2, at4c2, v_vdic, v_vdicD, v_key, v_keyK1, v_keyK2, v_keyK2i, str_inj, o_in1, o_in2, o_in3, String.reduceEq, v_listL, v_listT, Bool.or_true, Bool.true_or, Bool.or_false, Bool.false_or, Bool.and_true, Bool.true_and, Bool.and_false, Bool.false_and, wipeE, List.length_map, List.length_append, List.map_cons, List.map_nil, List.length_cons, List.length_nil, List.cons_append, List.nil_append, List.append_nil, List.getElem?_cons_zero, List.getElem?_cons_succ, List.set_cons_zero, List.set_cons_succ, List.replicate_succ, List.replicate_zero, Nat.reduceAdd, Nat.reduceSub, Nat.reduceLeDiff, Int.reduceNeg, Int.reducePow, Int.reduceLT, Int.reduceLE, Int.reduceNe, Int.reduceEq, Int.reduceAdd, nI, Int.reduceSub, Int.natAbs, ne_eq, not_false_eq_true, and_true, true_and, and_self, decide_true, decide_false, Nat.reduceLT, Nat.reduceEqDiff, reduceCtorEq, Bool.not_true, Bool.not_false, i_non_int, i_non_str, i_non_bool, i_non_tuple, i_non_list, n_non, nn_non, i_bl_int, i_bl_str, i_bl_bool, i_bl_tuple, i_bl_list, n_bl, nn_bl, i_int_int, i_int_str, i_int_bool, i_int_tuple, i_int_list, n_int, nn_int, i_str_int, i_str_str, i_str_bool, i_str_tuple, i_str_list, n_str, nn_str, i_tup_int, i_tup_str, i_tup_bool, i_tup_tuple, i_tup_list, n_tup, nn_tup, i_lst_int, i_lst_str, i_lst_bool, i_lst_tuple, i_lst_list, n_lst, nn_lst, i_dic_int, i_dic_str, i_dic_bool, i_dic_tuple, i_dic_list, n_dic, nn_dic, *])

/-! ### the pool: draws -/
theorem lv_spread (k : Nat) (cell : Int) (S : List D) : ∃ w : Int, G.run (k + 1) "_law_spread" [.int cell] S = some (.int w, S) := by
  have h4 : rng1 [.int 4] = some [.int 0, .int 1, .int 2, .int 3] := by rfl
  rw [run__law_spread]
  unfold b__law_spread s__law_spread_0 s__law_spread_1 s__law_spread_2 s__law_spread_3 s__law_spread_2_b
  walk_at "ev"
  simp only [v_iargK h4]
  walk_at "ev"
  exact ⟨_, rfl⟩
/-- a pool as it may stand -/
def PV (S : List D) : Prop := ∃ (xs : List Int) (a b c salt : Int), S = [.lst (xs.map .int), .int a, .int b, .int c, .int salt] ∧ 0 ≤ a
theorem PV.pool0 {ns : List Int} {salt : Int} : PV (pool0 ns salt) := ⟨ns, 0, 0, 0, salt, rfl, Int.le_refl 0⟩
theorem at_map {xs : List Int} {a : Int} (h0 : 0 ≤ a) (h : a < (xs.length : Int)) : ∃ x, atI (xs.map D.int) a = some (.int x) := by
  have hk : a.toNat < xs.length := by omega
  have ek : a = ((a.toNat : Nat) : Int) := by omega
  refine ⟨xs[a.toNat], ?_⟩
  have q : atI (xs.map D.int) ((a.toNat : Nat) : Int) = some (.int xs[a.toNat]) := atI_nat (by rw [List.getElem?_map, List.getElem?_eq_getElem hk] <;> rfl)
  rw [← ek] at q
  exact q
theorem draw_0 (R : RC) (hs : ∀ cell S, ∃ w : Int, R "_law_spread" [.int cell] S = some (.int w, S)) {xs : List Int} {a b c salt many : Int} (h0 : 0 ≤ a) :
    ∃ x2 a' b', 0 ≤ a' ∧ s__law_draw_0 R [some (.sh .pool), some (.sh (.int many)), none, none, none] [.lst (xs.map .int), .int a, .int b, .int c, .int salt] =
      some (.nx, [some (.sh .pool), some (.sh (.int many)), x2, none, none], [.lst (xs.map .int), .int a', .int b', .int c, .int salt]) := by
  unfold s__law_draw_0
  walk_at "ev"
  by_cases hb : b ≤ 0
  · simp only [hb, decide_true]
    walk_at "ev"
    by_cases ha : a < (xs.length : Int)
    · obtain ⟨x, ex⟩ := at_map h0 ha
      simp only [List.length_map, ha, decide_true]
      walk_at "ev"
      simp only [ex]
      walk_at "ev"
      by_cases hx : x < 1000000000000000000
      · obtain ⟨w, ew⟩ := hs x [.lst (xs.map .int), .int (a + 1), .int x, .int c, .int salt]
        simp only [hx, decide_true]
        walk_at "ev"
        simp only [ew]
        walk_at "ev"
        exact ⟨_, a + 1, w, by omega, rfl⟩
      · simp only [hx, decide_false]
        walk_at "ev"
        exact ⟨_, a + 1, x, by omega, rfl⟩
    · simp only [List.length_map, ha, decide_false]
      walk_at "ev"
      exact ⟨_, a, b, h0, rfl⟩
  · simp only [hb, decide_false]
    walk_at "ev"
    exact ⟨_, a, b, h0, rfl⟩
theorem fmod_pos {i j : Int} (h : 0 < j) : 0 ≤ i.fmod j ∧ i.fmod j < j := by
  rw [Int.fmod_eq_emod_of_nonneg i (Int.le_of_lt h)]
  exact ⟨Int.emod_nonneg i (by omega), Int.emod_lt_of_pos i h⟩
theorem lv_draw (k : Nat) (hk : 2 ≤ k) {S : List D} (h : PV S) (many : Nat) (hm : 0 < many) (hm2 : many < 1000000) :
    ∃ (v : Nat) (S' : List D), PV S' ∧ v < many ∧ G.run k "_law_draw" [.pool, .int (many : Int)] S = some (.int (v : Int), S') := by
  obtain ⟨k, rfl⟩ : ∃ j, k = j + 2 := ⟨k - 2, by omega⟩
  have key : ∃ (v : Int) (S' : List D), PV S' ∧ 0 ≤ v ∧ v < many ∧ G.run (k + 2) "_law_draw" [.pool, .int (many : Int)] S = some (.int v, S') := by
    obtain ⟨xs, a, b, c, salt, rfl, h0⟩ := h
    obtain ⟨x2, a', b', h0', e⟩ := draw_0 (G.run (k + 1)) (fun c S => lv_spread k c S) (xs := xs) (b := b) (c := c) (salt := salt) (many := many) h0
    have hpos : (0 : Int) < many := by omega
    have ne : (many : Int) ≠ 0 := by omega
    have na : (many : Int).natAbs < 1073741824 := by omega
    rw [run__law_draw]
    unfold b__law_draw
    walk_at "ev"
    simp only [e]
    walk_at "ev"
    unfold s__law_draw_1 s__law_draw_2
    walk_at "ev"
    by_cases hb : b' ≤ 0
    · simp only [hb, decide_true]
      walk_at "ev"
      simp only [o_div (show (5 : Int) ≠ 0 by decide) (show (5 : Int).natAbs < 1073741824 by decide), o_mod ne]
      walk_at "ev"
      exact ⟨_, _, ⟨xs, a', b', c + 1, salt, rfl, h0'⟩, (fmod_pos hpos).1, (fmod_pos hpos).2, rfl⟩
    · simp only [hb, decide_false]
      walk_at "ev"
      unfold s__law_draw_3 s__law_draw_4 s__law_draw_5
      walk_at "ev"
      simp only [o_mod ne]
      walk_at "ev"
      simp only [o_div ne na]
      walk_at "ev"
      exact ⟨_, _, ⟨xs, a', _, c + 1, salt, rfl, h0'⟩, (fmod_pos hpos).1, (fmod_pos hpos).2, rfl⟩
  obtain ⟨v, S', p, h1, h2, e⟩ := key
  exact ⟨v.toNat, S', p, by omega, by rw [e, show ((v.toNat : Nat) : Int) = v by omega]⟩
theorem at_int {xs : List D} {v : Nat} (h : v < xs.length) : ∃ d ∈ xs, atI xs (v : Int) = some d := ⟨xs[v], List.getElem_mem h, atI_nat (List.getElem?_eq_getElem h)⟩
theorem lv_pick (k : Nat) (hk : 3 ≤ k) {S : List D} (h : PV S) {items : List D} (hn : items ≠ []) (hl : items.length < 1000000) :
    ∃ (d : D) (S' : List D), d ∈ items ∧ PV S' ∧ G.run k "_law_pick" [.pool, .lst items] S = some (d, S') := by
  obtain ⟨k, rfl⟩ : ∃ j, k = j + 1 := ⟨k - 1, by omega⟩
  obtain ⟨v, S1, p1, v1, e1⟩ := lv_draw k (by omega) h items.length (List.length_pos_iff.mpr hn) hl
  obtain ⟨d, hm, e2⟩ := at_int v1
  refine ⟨d, S1, hm, p1, ?_⟩
  rw [run__law_pick]
  unfold b__law_pick s__law_pick_0
  walk_at "evh"
def strsD (xs : List Str) : D := .lst (xs.map .str)
theorem pick_str (k : Nat) (hk : 3 ≤ k) {S : List D} (h : PV S) {xs : List Str} (hn : xs ≠ []) (hl : xs.length < 1000000) : ∃ (x : Str) (S' : List D), x ∈ xs ∧ PV S' ∧ G.run k "_law_pick" [.pool, strsD xs] S = some (.str x, S') := by
  obtain ⟨d, S1, hm, p1, e⟩ := lv_pick k hk h (items := xs.map .str) (by simpa using hn) (by simpa using hl)
  obtain ⟨x, hx, rfl⟩ := List.mem_map.mp hm
  exact ⟨x, S1, hx, p1, e⟩
end Ip

set_option maxHeartbeats 4000000
namespace Ip
open PySem L2
local macro_rules | `(tactic| walk_at "ev") => `(tactic| simp -implicitDefEqProofs only [v_c, v_var, v_varK, v_bin, v_binK1, v_binK2, v_pairK, v_un, v_unK, v_app, v_appK, v_call, v_callK, v_nil, v_cons, v_consK1, v_consK2, v_tup, v_lst, v_lstK, v_disp, v_ix, v_ixK1, v_ixP, v_ixT, v_ixL, at0, at1, at2, at3, at4, v_bl, v_blK, v_tru, v_truK, v_truN, v_mnot, v_notK, v_mand, v_andT, v_andF, v_mor, v_orT, v_orF, v_yes, v_xand, v_xandT, v_xandF, v_xor, v_xorT, v_xorF, v_xnot, v_xnotK, v_xif, v_xifT, v_xifF, v_ch, v_chK1, v_chK2, v_chT, v_chF, v_chK4, v_sli, v_sliK1, v_sliK2, v_sliT, v_sliL, v_onone, v_osome, v_osoK, v_iof, v_iofT, v_iofL, v_iarg, v_snil, v_seq, v_seqN, v_seqR, v_seqB, v_seqC, v_sif, v_ifT, v_ifF, v_ret, v_retK, v_asg, v_asgN, v_asgT, v_put0, v_put1, v_bk, v_ct, v_pool, v_poolK1, v_poolK2, v_pool1, v_pool2, v_pool3, v_for, v_forK, v_for0, v_for1, v_putN, v_forK1, v_forN, v_forC, v_forB, v_forR, v_par3, v_par3K1, v_par3K2, v_par3K3, v_par, v_parK1, v_parK2, v_vsh, v_vshK, v_run, v_runR, v_runN, v_comp, v_put, v_putK, v_own, v_ownK, v_lapp, v_ladd, v_laddK1, v_laddK2, v_xo, v_xoK, v_sapp, v_sappK1, v_sappK2, v_sappK3, v_lenO, v_lenK1, v_frz, v_fold0, v_fold1, v_frzK, v_frzN, v_frozen1, v_frozen2, v_frozen3, v_mth, v_mthK1, v_mthK2, v_mulI, v_min, v_list1, v_list2, o_add, o_sub, o_mul, o_mod, o_div, o_lt, o_le, o_gt, o_ge, o_int, o_neg, o_lenL, o_lenT, o_eqI, o_eqS, o_eqB, o_neI, o_neS, o_neB, o_tupL, o_tupT, startE, ob_addL, ob_addT, ob_tupK, ob_dispK, v_star, v_starK1, v_starK2, v_starK3, v_starK3i, v_dict, v_dictK, v_pair0, v_pair1, v_pairK1, v_pairK2s, v_pairK3, v_fld, v_fldK, v_met, v_metK2, v_new, v_newK, v_rev, v_revT, v_revL, v_ext, v_extK1, v_extT, v_extL, ox_neI, ox_neS, ox_neB, ox_neNI, ox_neIN, atm2, atm3, atm4, at2c1, at3c1, at4c1, at3c2, at4c2, v_vdic, v_vdicD, v_key, v_keyK1, v_keyK2, v_keyK2i, str_inj, o_in1, o_in2, o_in3, String.reduceEq, v_listL, v_listT, Bool.or_true, Bool.true_or, Bool.or_false, Bool.false_or, Bool.and_true, Bool.true_and, Bool.and_false, Bool.false_and, wipeE, List.length_map, List.length_append, List.map_cons, List.map_nil, List.length_cons, List.length_nil, List.cons_append, List.nil_append, List.append_nil, List.getElem?_cons_zero, List.getElem?_cons_succ, List.set_cons_zero, List.set_cons_succ, List.replicate_succ, List.replicate_zero, Nat.reduceAdd, Nat.reduceSub, Nat.reduceLeDiff, Int.reduceNeg, Int.reducePow, Int.reduceLT, Int.reduceLE, Int.reduceNe, Int.reduceEq, Int.reduceAdd, nI, Int.reduceSub, Int.natAbs, ne_eq, not_false_eq_true, and_true, true_and, and_self, decide_true, decide_false, Nat.reduceLT, Nat.reduceEqDiff, reduceCtorEq, Bool.not_true, Bool.not_false, i_non_int, i_non_str, i_non_bool, i_non_tuple, i_non_list, n_non, nn_non, i_bl_int, i_bl_str, i_bl_bool, i_bl_tuple, i_bl_list, n_bl, nn_bl, i_int_int, i_int_str, i_int_bool, i_int_tuple, i_int_list, n_int, nn_int, i_str_int, i_str_str, i_str_bool, i_str_tuple, i_str_list, n_str, nn_str, i_tup_int, i_tup_str, i_tup_bool, i_tup_tuple, i_tup_list, n_tup, nn_tup, i_lst_int, i_lst_str, i_lst_bool, i_lst_tuple, i_lst_list, n_lst, nn_lst, i_dic_int, i_dic_str, i_dic_bool, i_dic_tuple, i_dic_list, n_dic, nn_dic])
local macro_rules | `(tactic| walk_at "evh") => `(tactic| simp -implicitDefEqProofs only [v_c, v_var, v_varK, v_bin, v_binK1, v_binK2, v_pairK, v_un, v_unK, v_app, v_appK, v_call, v_callK, v_nil, v_cons, v_consK1, v_consK2, v_tup, v_lst, v_lstK, v_disp, v_ix, v_ixK1, v_ixP, v_ixT, v_ixL, at0, at1, at2, at3, at4, v_bl, v_blK, v_tru, v_truK, v_truN, v_mnot, v_notK, v_mand, v_andT, v_andF, v_mor, v_orT, v_orF, v_yes, v_xand, v_xandT, v_xandF, v_xor, v_xorT, v_xorF, v_xnot, v_xnotK, v_xif, v_xifT, v_xifF, v_ch, v_chK1, v_chK2, v_chT, v_chF, v_chK4, v_sli, v_sliK1, v_sliK2, v_sliT, v_sliL, v_onone, v_osome, v_osoK, v_iof, v_iofT, v_iofL, v_iarg, v_snil, v_seq, v_seqN, v_seqR, v_seqB, v_seqC, v_sif, v_ifT, v_ifF, v_ret, v_retK, v_asg, v_asgN, v_asgT, v_put0, v_put1, v_bk, v_ct, v_pool, v_poolK1, v_poolK2, v_pool1, v_pool2, v_pool3, v_for, v_forK, v_for0, v_for1, v_putN, v_forK1, v_forN, v_forC, v_forB, v_forR, v_par3, v_par3K1, v_par3K2, v_par3K3, v_par, v_parK1, v_parK2, v_vsh, v_vshK, v_run, v_runR, v_runN, v_comp, v_put, v_putK, v_own, v_ownK, v_lapp, v_ladd, v_laddK1, v_laddK2, v_xo, v_xoK, v_sapp, v_sappK1, v_sappK2, v_sappK3, v_lenO, v_lenK1, v_frz, v_fold0, v_fold1, v_frzK, v_frzN, v_frozen1, v_frozen2, v_frozen3, v_mth, v_mthK1, v_mthK2, v_mulI, v_min, v_list1, v_list2, o_add, o_sub, o_mul, o_mod, o_div, o_lt, o_le, o_gt, o_ge, o_int, o_neg, o_lenL, o_lenT, o_eqI, o_eqS, o_eqB, o_neI, o_neS, o_neB, o_tupL, o_tupT, startE, ob_addL, ob_addT, ob_tupK, ob_dispK, v_star, v_starK1, v_starK2, v_starK3, v_starK3i, v_dict, v_dictK, v_pair0, v_pair1, v_pairK1, v_pairK2s, v_pairK3, v_fld, v_fldK, v_met, v_metK2, v_new, v_newK, v_rev, v_revT, v_revL, v_ext, v_extK1, v_extT, v_extL, ox_neI, ox_neS, ox_neB, ox_neNI, ox_neIN, atm2, atm3, atm4, at2c1, at3c1, at4c1, at3c2, at4c2, v_vdic, v_vdicD, v_key, v_keyK1, v_keyK2, v_keyK2i, str_inj, o_in1, o_in2, o_in3, String.reduceEq, v_listL, v_listT, Bool.or_true, Bool.true_or, Bool.or_false, Bool.false_or, Bool.and_true, Bool.true_and, Bool.and_false, Bool.false_and, wipeE, List.length_map, List.length_append, List.map_cons, List.map_nil, List.length_cons, List.length_nil, List.cons_append, List.nil_append, List.append_nil, List.getElem?_cons_zero, List.getElem?_cons_succ, List.set_cons_zero, List.set_cons_succ, List.replicate_succ, List.replicate_zero, Nat.reduceAdd, Nat.reduceSub, Nat.reduceLeDiff, Int.reduceNeg, Int.reducePow, Int.reduceLT, Int.reduceLE, Int.reduceNe, Int.reduceEq, Int.reduceAdd, nI, Int.reduceSub, Int.natAbs, ne_eq, not_false_eq_true, and_true, true_and, and_self, decide_true, decide_false, Nat.reduceLT, Nat.reduceEqDiff, reduceCtorEq, Bool.not_true, Bool.not_false, i_non_int, i_non_str, i_non_bool, i_non_tuple, i_non_list, n_non, nn_non, i_bl_int, i_bl_str, i_bl_bool, i_bl_tuple, i_bl_list, n_bl, nn_bl, i_int_int, i_int_str, i_int_bool, i_int_tuple, i_int_list, n_int, nn_int, i_str_int, i_str_str, i_str_bool, i_str_tuple, i_str_list, n_str, nn_str, i_tup_int, i_tup_str, i_tup_bool, i_tup_tuple, i_tup_list, n_tup, nn_tup, i_lst_int, i_lst_str, i_lst_bool, i_lst_tuple, i_lst_list, n_lst, nn_lst, i_dic_int, i_dic_str, i_dic_bool, i_dic_tuple, i_dic_list, n_dic, nn_dic, *])

/-! ### formulas -/
inductive Fm where
  | tru
  | is (k x : Str)
  | same (x y : Str)
  | not (f : Fm)
  | both (f g : Fm)
  | either (f g : Fm)
  | some (x : Str) (f : Fm)
  | each (x : Str) (f : Fm)
  | many (n : Int) (x : Str) (f : Fm)
def Fm.toD : Fm → D
  | .tru => .tup [.str "true"]
  | .is k x => .tup [.str "is", .str k, .str x]
  | .same x y => .tup [.str "same", .str x, .str y]
  | .not f => .tup [.str "not", f.toD]
  | .both f g => .tup [.str "both", f.toD, g.toD]
  | .either f g => .tup [.str "either", f.toD, g.toD]
  | .some x f => .tup [.str "some", .str x, f.toD]
  | .each x f => .tup [.str "each", .str x, f.toD]
  | .many n x f => .tup [.str "many", .int n, .str x, f.toD]
def Fm.depth : Fm → Nat
  | .tru => 0
  | .is _ _ => 0
  | .same _ _ => 0
  | .not f => f.depth + 1
  | .both f g => max f.depth g.depth + 1
  | .either f g => max f.depth g.depth + 1
  | .some _ f => f.depth + 1
  | .each _ f => f.depth + 1
  | .many _ _ f => f.depth + 1
def Fm.word : Fm → D
  | .tru => .str "true"
  | .is _ _ => .str "is"
  | .same _ _ => .str "same"
  | .not _ => .str "not"
  | .both _ _ => .str "both"
  | .either _ _ => .str "either"
  | .some _ _ => .str "some"
  | .each _ _ => .str "each"
  | .many _ _ _ => .str "many"
def Fm.rank : Fm → Int
  | .tru => 0
  | .is _ _ => 0
  | .same _ _ => 0
  | .not f => max 0 f.rank
  | .both f g => max (max 0 f.rank) g.rank
  | .either f g => max (max 0 f.rank) g.rank
  | .some _ f => 1 + max 0 f.rank
  | .each _ f => 1 + max 0 f.rank
  | .many n _ f => n + max 0 f.rank
def Fm.subs : Fm → List Fm
  | .tru => []
  | .is _ _ => []
  | .same _ _ => []
  | .not f => [f]
  | .both f g => [f, g]
  | .either f g => [f, g]
  | .some _ f => [f]
  | .each _ f => [f]
  | .many _ _ f => [f]
/-- made of these kinds, its free variables among the names -/
def Fm.Ok (kinds : List Str) : List Str → Fm → Prop
  | _, .tru => True
  | ns, .is k x => k ∈ kinds ∧ x ∈ ns
  | ns, .same x y => x ∈ ns ∧ y ∈ ns
  | ns, .not f => f.Ok kinds ns
  | ns, .both f g => f.Ok kinds ns ∧ g.Ok kinds ns
  | ns, .either f g => f.Ok kinds ns ∧ g.Ok kinds ns
  | ns, .some x f => (x ∈ (["x", "y", "z"] : List Str)) ∧ f.Ok kinds (ns ++ [x])
  | ns, .each x f => (x ∈ (["x", "y", "z"] : List Str)) ∧ f.Ok kinds (ns ++ [x])
  | ns, .many n x f => (0 ≤ n ∧ n ≤ 3) ∧ (x ∈ (["x", "y", "z"] : List Str)) ∧ f.Ok kinds (ns ++ [x])
theorem Fm.sub_depth {f g : Fm} (h : g ∈ f.subs) : g.depth < f.depth := by
  cases f <;> simp [Fm.subs] at h <;> (try rcases h with h | h) <;> subst_vars <;> simp [Fm.depth] <;> omega
/-! ### ranks -/
theorem cut1 {a b : D} {l : List D} : cutD (a :: l) (.some 1) none = l := by
  unfold cutD
  have e1 : HT.sIx (a :: l).length 0 (.some 1) = min 1 (a :: l).length := HT.sIx_nat _ 0 1
  rw [e1, HT.sIx_none]
  simp
theorem intsD_map (is : List Int) : intsD (is.map D.int) = .some is := by
  induction is with
  | nil => rfl
  | cons i is ih => simp [intsD, ih]
theorem max_ok {i : Int} {is : List Int} : maxD [.lst (.int i :: is.map D.int)] = .some (.int (is.foldl max i)) := by
  have := intsD_map (i :: is)
  simp only [List.map_cons] at this
  simp [maxD, this, maxL]
theorem max_maps {i : Int} {fs : List Fm} : maxD [.lst (.int i :: fs.map fun g => D.int g.rank)] = .some (.int ((fs.map Fm.rank).foldl max i)) := by
  have hm : (fs.map fun g => D.int g.rank) = (fs.map Fm.rank).map D.int := by rw [List.map_map]; rfl
  rw [hm, max_ok]
theorem Fm.subs_len (f : Fm) : f.subs.length ≤ 2 := by cases f <;> simp [Fm.subs]
def thD (fs : List Fm) : D := .tup (fs.map Fm.toD)
def limit (fs : List Fm) : Int := (fs.map Fm.rank).foldl max 1
theorem f_ix0 {f : Fm} {S : List D} : ixK2 f.toD (.some (.int 0, S)) = .some (f.word, S) := by
  cases f <;> (unfold Fm.toD Fm.word; walk_at "ev")
theorem lv_inner (k : Nat) (hk : 1 ≤ k) (S : List D) (f : Fm) : G.run k "inner_of" [f.toD] S = .some (.tup (f.subs.map Fm.toD), S) := by
  obtain ⟨k, rfl⟩ : ∃ j, k = j + 1 := ⟨k - 1, by omega⟩
  rw [run_inner_of]
  unfold b_inner_of s_inner_of_0 s_inner_of_1 s_inner_of_2
  cases f <;> (unfold Fm.toD Fm.subs; walk_at "ev")
  all_goals rfl
theorem lv_rank : ∀ (n k : Nat) (f : Fm) (S : List D), f.depth ≤ n → n + 2 ≤ k → G.run k "rank_of" [f.toD] S = .some (.int f.rank, S)
  | n, k, f, S, hn, hk => by
    obtain ⟨k, rfl⟩ : ∃ j, k = j + 1 := ⟨k - 1, by omega⟩
    have hi := lv_inner k (by omega) S f
    have hr : ∀ g ∈ f.subs, G.run k "rank_of" [g.toD] S = .some (.int g.rank, S) := fun g hg => by
      have hd := Fm.sub_depth hg
      exact lv_rank (n - 1) k g S (by omega) (by omega)
    have hl := f.subs_len
    rw [run_rank_of]
    unfold b_rank_of s_rank_of_0 s_rank_of_1
    have e0 := @f_ix0 f
    walk_at "evh"
    rw [k_mapN Fm.toD (fun g => D.int g.rank) f.subs (by rfl) (by omega) fun g hg => by walk_at "ev"; exact hr g hg]
    walk_at "ev"
    rw [ob_addL (by simp; omega)]
    walk_at "ev"
    rw [max_maps]
    walk_at "ev"
    unfold s_rank_of_2 s_rank_of_3
    cases f <;> (unfold Fm.toD Fm.word Fm.subs Fm.rank; walk_at "ev")
    all_goals rfl
theorem lv_linner (k : Nat) (hk : 1 ≤ k) (S : List D) (f : Fm) : G.run k "_law_inner" [f.toD] S = .some (.tup (f.subs.map Fm.toD), S) := by
  obtain ⟨k, rfl⟩ : ∃ j, k = j + 1 := ⟨k - 1, by omega⟩
  rw [run__law_inner]
  unfold b__law_inner s__law_inner_0 s__law_inner_1
  cases f <;> (unfold Fm.toD Fm.subs; walk_at "ev")
  all_goals rfl
theorem lv_lrank : ∀ (n k : Nat) (f : Fm) (S : List D), f.depth ≤ n → n + 2 ≤ k → G.run k "_law_rank" [f.toD] S = .some (.int f.rank, S)
  | n, k, f, S, hn, hk => by
    obtain ⟨k, rfl⟩ : ∃ j, k = j + 1 := ⟨k - 1, by omega⟩
    have hi := lv_linner k (by omega) S f
    have hr : ∀ g ∈ f.subs, G.run k "_law_rank" [g.toD] S = .some (.int g.rank, S) := fun g hg => by
      have hd := Fm.sub_depth hg
      exact lv_lrank (n - 1) k g S (by omega) (by omega)
    have hl := f.subs_len
    rw [run__law_rank]
    unfold b__law_rank s__law_rank_0
    have e0 := @f_ix0 f
    walk_at "evh"
    rw [k_mapN Fm.toD (fun g => D.int g.rank) f.subs (by rfl) (by omega) fun g hg => by walk_at "ev"; exact hr g hg]
    walk_at "ev"
    rw [ob_addL (by simp; omega)]
    walk_at "ev"
    rw [max_maps]
    walk_at "ev"
    unfold s__law_rank_1
    cases f <;> (unfold Fm.toD Fm.subs Fm.rank; walk_at "ev")
    all_goals (simp [Int.add_comm])
end Ip

set_option maxHeartbeats 4000000
namespace Ip
open PySem L2
local macro_rules | `(tactic| walk_at "ev") => `(tactic| simp -implicitDefEqProofs only [v_c, v_var, v_varK, v_bin, v_binK1, v_binK2, v_pairK, v_un, v_unK, v_app, v_appK, v_call, v_callK, v_nil, v_cons, v_consK1, v_consK2, v_tup, v_lst, v_lstK, v_disp, v_ix, v_ixK1, v_ixP, v_ixT, v_ixL, at0, at1, at2, at3, at4, v_bl, v_blK, v_tru, v_truK, v_truN, v_mnot, v_notK, v_mand, v_andT, v_andF, v_mor, v_orT, v_orF, v_yes, v_xand, v_xandT, v_xandF, v_xor, v_xorT, v_xorF, v_xnot, v_xnotK, v_xif, v_xifT, v_xifF, v_ch, v_chK1, v_chK2, v_chT, v_chF, v_chK4, v_sli, v_sliK1, v_sliK2, v_sliT, v_sliL, v_onone, v_osome, v_osoK, v_iof, v_iofT, v_iofL, v_iarg, v_snil, v_seq, v_seqN, v_seqR, v_seqB, v_seqC, v_sif, v_ifT, v_ifF, v_ret, v_retK, v_asg, v_asgN, v_asgT, v_put0, v_put1, v_bk, v_ct, v_pool, v_poolK1, v_poolK2, v_pool1, v_pool2, v_pool3, v_for, v_forK, v_for0, v_for1, v_putN, v_forK1, v_forN, v_forC, v_forB, v_forR, v_par3, v_par3K1, v_par3K2, v_par3K3, v_par, v_parK1, v_parK2, v_vsh, v_vshK, v_run, v_runR, v_runN, v_comp, v_put, v_putK, v_own, v_ownK, v_lapp, v_ladd, v_laddK1, v_laddK2, v_xo, v_xoK, v_sapp, v_sappK1, v_sappK2, v_sappK3, v_lenO, v_lenK1, v_frz, v_fold0, v_fold1, v_frzK, v_frzN, v_frozen1, v_frozen2, v_frozen3, v_mth, v_mthK1, v_mthK2, v_mulI, v_min, v_list1, v_list2, o_add, o_sub, o_mul, o_mod, o_div, o_lt, o_le, o_gt, o_ge, o_int, o_neg, o_lenL, o_lenT, o_eqI, o_eqS, o_eqB, o_neI, o_neS, o_neB, o_tupL, o_tupT, startE, ob_addL, ob_addT, ob_tupK, ob_dispK, v_star, v_starK1, v_starK2, v_starK3, v_starK3i, v_dict, v_dictK, v_pair0, v_pair1, v_pairK1, v_pairK2s, v_pairK3, v_fld, v_fldK, v_met, v_metK2, v_new, v_newK, v_rev, v_revT, v_revL, v_ext, v_extK1, v_extT, v_extL, ox_neI, ox_neS, ox_neB, ox_neNI, ox_neIN, atm2, atm3, atm4, at2c1, at3c1, at4c1, at3c2, at4c2, v_vdic, v_vdicD, v_key, v_keyK1, v_keyK2, v_keyK2i, str_inj, o_in1, o_in2, o_in3, String.reduceEq, v_listL, v_listT, Bool.or_true, Bool.true_or, Bool.or_false, Bool.false_or, Bool.and_true, Bool.true_and, Bool.and_false, Bool.false_and, wipeE, List.length_map, List.length_append, List.map_cons, List.map_nil, List.length_cons, List.length_nil, List.cons_append, List.nil_append, List.append_nil, List.getElem?_cons_zero, List.getElem?_cons_succ, List.set_cons_zero, List.set_cons_succ, List.replicate_succ, List.replicate_zero, Nat.reduceAdd, Nat.reduceSub, Nat.reduceLeDiff, Int.reduceNeg, Int.reducePow, Int.reduceLT, Int.reduceLE, Int.reduceNe, Int.reduceEq, Int.reduceAdd, nI, Int.reduceSub, Int.natAbs, ne_eq, not_false_eq_true, and_true, true_and, and_self, decide_true, decide_false, Nat.reduceLT, Nat.reduceEqDiff, reduceCtorEq, Bool.not_true, Bool.not_false, i_non_int, i_non_str, i_non_bool, i_non_tuple, i_non_list, n_non, nn_non, i_bl_int, i_bl_str, i_bl_bool, i_bl_tuple, i_bl_list, n_bl, nn_bl, i_int_int, i_int_str, i_int_bool, i_int_tuple, i_int_list, n_int, nn_int, i_str_int, i_str_str, i_str_bool, i_str_tuple, i_str_list, n_str, nn_str, i_tup_int, i_tup_str, i_tup_bool, i_tup_tuple, i_tup_list, n_tup, nn_tup, i_lst_int, i_lst_str, i_lst_bool, i_lst_tuple, i_lst_list, n_lst, nn_lst, i_dic_int, i_dic_str, i_dic_bool, i_dic_tuple, i_dic_list, n_dic, nn_dic])
local macro_rules | `(tactic| walk_at "evh") => `(tactic| simp -implicitDefEqProofs only [v_c, v_var, v_varK, v_bin, v_binK1, v_binK2, v_pairK, v_un, v_unK, v_app, v_appK, v_call, v_callK, v_nil, v_cons, v_consK1, v_consK2, v_tup, v_lst, v_lstK, v_disp, v_ix, v_ixK1, v_ixP, v_ixT, v_ixL, at0, at1, at2, at3, at4, v_bl, v_blK, v_tru, v_truK, v_truN, v_mnot, v_notK, v_mand, v_andT, v_andF, v_mor, v_orT, v_orF, v_yes, v_xand, v_xandT, v_xandF, v_xor, v_xorT, v_xorF, v_xnot, v_xnotK, v_xif, v_xifT, v_xifF, v_ch, v_chK1, v_chK2, v_chT, v_chF, v_chK4, v_sli, v_sliK1, v_sliK2, v_sliT, v_sliL, v_onone, v_osome, v_osoK, v_iof, v_iofT, v_iofL, v_iarg, v_snil, v_seq, v_seqN, v_seqR, v_seqB, v_seqC, v_sif, v_ifT, v_ifF, v_ret, v_retK, v_asg, v_asgN, v_asgT, v_put0, v_put1, v_bk, v_ct, v_pool, v_poolK1, v_poolK2, v_pool1, v_pool2, v_pool3, v_for, v_forK, v_for0, v_for1, v_putN, v_forK1, v_forN, v_forC, v_forB, v_forR, v_par3, v_par3K1, v_par3K2, v_par3K3, v_par, v_parK1, v_parK2, v_vsh, v_vshK, v_run, v_runR, v_runN, v_comp, v_put, v_putK, v_own, v_ownK, v_lapp, v_ladd, v_laddK1, v_laddK2, v_xo, v_xoK, v_sapp, v_sappK1, v_sappK2, v_sappK3, v_lenO, v_lenK1, v_frz, v_fold0, v_fold1, v_frzK, v_frzN, v_frozen1, v_frozen2, v_frozen3, v_mth, v_mthK1, v_mthK2, v_mulI, v_min, v_list1, v_list2, o_add, o_sub, o_mul, o_mod, o_div, o_lt, o_le, o_gt, o_ge, o_int, o_neg, o_lenL, o_lenT, o_eqI, o_eqS, o_eqB, o_neI, o_neS, o_neB, o_tupL, o_tupT, startE, ob_addL, ob_addT, ob_tupK, ob_dispK, v_star, v_starK1, v_starK2, v_starK3, v_starK3i, v_dict, v_dictK, v_pair0, v_pair1, v_pairK1, v_pairK2s, v_pairK3, v_fld, v_fldK, v_met, v_metK2, v_new, v_newK, v_rev, v_revT, v_revL, v_ext, v_extK1, v_extT, v_extL, ox_neI, ox_neS, ox_neB, ox_neNI, ox_neIN, atm2, atm3, atm4, at2c1, at3c1, at4c1, at3c2, at4c2, v_vdic, v_vdicD, v_key, v_keyK1, v_keyK2, v_keyK2i, str_inj, o_in1, o_in2, o_in3, String.reduceEq, v_listL, v_listT, Bool.or_true, Bool.true_or, Bool.or_false, Bool.false_or, Bool.and_true, Bool.true_and, Bool.and_false, Bool.false_and, wipeE, List.length_map, List.length_append, List.map_cons, List.map_nil, List.length_cons, List.length_nil, List.cons_append, List.nil_append, List.append_nil, List.getElem?_cons_zero, List.getElem?_cons_succ, List.set_cons_zero, List.set_cons_succ, List.replicate_succ, List.replicate_zero, Nat.reduceAdd, Nat.reduceSub, Nat.reduceLeDiff, Int.reduceNeg, Int.reducePow, Int.reduceLT, Int.reduceLE, Int.reduceNe, Int.reduceEq, Int.reduceAdd, nI, Int.reduceSub, Int.natAbs, ne_eq, not_false_eq_true, and_true, true_and, and_self, decide_true, decide_false, Nat.reduceLT, Nat.reduceEqDiff, reduceCtorEq, Bool.not_true, Bool.not_false, i_non_int, i_non_str, i_non_bool, i_non_tuple, i_non_list, n_non, nn_non, i_bl_int, i_bl_str, i_bl_bool, i_bl_tuple, i_bl_list, n_bl, nn_bl, i_int_int, i_int_str, i_int_bool, i_int_tuple, i_int_list, n_int, nn_int, i_str_int, i_str_str, i_str_bool, i_str_tuple, i_str_list, n_str, nn_str, i_tup_int, i_tup_str, i_tup_bool, i_tup_tuple, i_tup_list, n_tup, nn_tup, i_lst_int, i_lst_str, i_lst_bool, i_lst_tuple, i_lst_list, n_lst, nn_lst, i_dic_int, i_dic_str, i_dic_bool, i_dic_tuple, i_dic_list, n_dic, nn_dic, *])

theorem at_len {xs : List D} {k : Nat} (h : k < xs.length) : atI xs (0 + (k : Int)) = some xs[k] := by
  rw [Int.zero_add]
  exact atI_nat (List.getElem?_eq_getElem h)
theorem rng_irs {n : Nat} (h : n ≤ 1000) : rng1 [.int (n : Int)] = some (irs 0 n) := by rw [o_rng (by omega), irs0]
/-! ### plain data; _law_same of a thing and itself -/
inductive Pl : Nat → D → Prop where
  | non (n : Nat) : Pl n .non
  | bl (n : Nat) (b : Bool) : Pl n (.bl b)
  | int (n : Nat) (i : Int) : Pl n (.int i)
  | str (n : Nat) (x : Str) : Pl n (.str x)
  | tup (n : Nat) (xs : List D) : xs.length ≤ 1000000 → (∀ x ∈ xs, Pl n x) → Pl (n + 1) (.tup xs)
  | lst (n : Nat) (xs : List D) : xs.length ≤ 1000000 → (∀ x ∈ xs, Pl n x) → Pl (n + 1) (.lst xs)
theorem Pl.mono {n m : Nat} {d : D} (h : Pl n d) (hm : n ≤ m) : Pl m d := by
  induction h generalizing m with
  | non n => exact .non m
  | bl n b => exact .bl m b
  | int n i => exact .int m i
  | str n x => exact .str m x
  | tup n xs hl hp ih =>
    obtain ⟨m, rfl⟩ : ∃ j, m = j + 1 := ⟨m - 1, by omega⟩
    exact .tup m xs hl fun x hx => ih x hx (by omega)
  | lst n xs hl hp ih =>
    obtain ⟨m, rfl⟩ : ∃ j, m = j + 1 := ⟨m - 1, by omega⟩
    exact .lst m xs hl fun x hx => ih x hx (by omega)
theorem pl_l {n : Nat} {xs : List D} (hl : xs.length ≤ 1000000) (h : ∀ x ∈ xs, Pl n x) : Pl (n + 1) (.lst xs) := .lst n xs hl h
theorem pl_map {α : Type} {n : Nat} {xs : List α} {f : α → D} (hl : xs.length ≤ 1000000) (h : ∀ x ∈ xs, Pl n (f x)) : Pl (n + 1) (.lst (xs.map f)) := .lst n _ (by simpa using hl) fun x hx => by
  obtain ⟨y, hy, rfl⟩ := List.mem_map.mp hx
  exact h y hy
theorem pl_mapT {α : Type} {n : Nat} {xs : List α} {f : α → D} (hl : xs.length ≤ 1000000) (h : ∀ x ∈ xs, Pl n (f x)) : Pl (n + 1) (.tup (xs.map f)) := .tup n _ (by simpa using hl) fun x hx => by
  obtain ⟨y, hy, rfl⟩ := List.mem_map.mp hx
  exact h y hy
theorem at_nat {xs : List D} {k : Nat} (h : k < xs.length) : atI xs (k : Int) = some xs[k] := atI_nat (List.getElem?_eq_getElem h)
end Ip

set_option maxHeartbeats 4000000
namespace Ip
open PySem L2
local macro_rules | `(tactic| walk_at "ev") => `(tactic| simp -implicitDefEqProofs only [v_c, v_var, v_varK, v_bin, v_binK1, v_binK2, v_pairK, v_un, v_unK, v_app, v_appK, v_call, v_callK, v_nil, v_cons, v_consK1, v_consK2, v_tup, v_lst, v_lstK, v_disp, v_ix, v_ixK1, v_ixP, v_ixT, v_ixL, at0, at1, at2, at3, at4, v_bl, v_blK, v_tru, v_truK, v_truN, v_mnot, v_notK, v_mand, v_andT, v_andF, v_mor, v_orT, v_orF, v_yes, v_xand, v_xandT, v_xandF, v_xor, v_xorT, v_xorF, v_xnot, v_xnotK, v_xif, v_xifT, v_xifF, v_ch, v_chK1, v_chK2, v_chT, v_chF, v_chK4, v_sli, v_sliK1, v_sliK2, v_sliT, v_sliL, v_onone, v_osome, v_osoK, v_iof, v_iofT, v_iofL, v_iarg, v_snil, v_seq, v_seqN, v_seqR, v_seqB, v_seqC, v_sif, v_ifT, v_ifF, v_ret, v_retK, v_asg, v_asgN, v_asgT, v_put0, v_put1, v_bk, v_ct, v_pool, v_poolK1, v_poolK2, v_pool1, v_pool2, v_pool3, v_for, v_forK, v_for0, v_for1, v_putN, v_forK1, v_forN, v_forC, v_forB, v_forR, v_par3, v_par3K1, v_par3K2, v_par3K3, v_par, v_parK1, v_parK2, v_vsh, v_vshK, v_run, v_runR, v_runN, v_comp, v_put, v_putK, v_own, v_ownK, v_lapp, v_ladd, v_laddK1, v_laddK2, v_xo, v_xoK, v_sapp, v_sappK1, v_sappK2, v_sappK3, v_lenO, v_lenK1, v_frz, v_fold0, v_fold1, v_frzK, v_frzN, v_frozen1, v_frozen2, v_frozen3, v_mth, v_mthK1, v_mthK2, v_mulI, v_min, v_list1, v_list2, o_add, o_sub, o_mul, o_mod, o_div, o_lt, o_le, o_gt, o_ge, o_int, o_neg, o_lenL, o_lenT, o_eqI, o_eqS, o_eqB, o_neI, o_neS, o_neB, o_tupL, o_tupT, startE, ob_addL, ob_addT, ob_tupK, ob_dispK, v_star, v_starK1, v_starK2, v_starK3, v_starK3i, v_dict, v_dictK, v_pair0, v_pair1, v_pairK1, v_pairK2s, v_pairK3, v_fld, v_fldK, v_met, v_metK2, v_new, v_newK, v_rev, v_revT, v_revL, v_ext, v_extK1, v_extT, v_extL, ox_neI, ox_neS, ox_neB, ox_neNI, ox_neIN, atm2, atm3, atm4, at2c1, at3c1, at4c1, at3c2, at4c2, v_vdic, v_vdicD, v_key, v_keyK1, v_keyK2, v_keyK2i, str_inj, o_in1, o_in2, o_in3, String.reduceEq, v_listL, v_listT, Bool.or_true, Bool.true_or, Bool.or_false, Bool.false_or, Bool.and_true, Bool.true_and, Bool.and_false, Bool.false_and, wipeE, List.length_map, List.length_append, List.map_cons, List.map_nil, List.length_cons, List.length_nil, List.cons_append, List.nil_append, List.append_nil, List.getElem?_cons_zero, List.getElem?_cons_succ, List.set_cons_zero, List.set_cons_succ, List.replicate_succ, List.replicate_zero, Nat.reduceAdd, Nat.reduceSub, Nat.reduceLeDiff, Int.reduceNeg, Int.reducePow, Int.reduceLT, Int.reduceLE, Int.reduceNe, Int.reduceEq, Int.reduceAdd, nI, Int.reduceSub, Int.natAbs, ne_eq, not_false_eq_true, and_true, true_and, and_self, decide_true, decide_false, Nat.reduceLT, Nat.reduceEqDiff, reduceCtorEq, Bool.not_true, Bool.not_false, i_non_int, i_non_str, i_non_bool, i_non_tuple, i_non_list, n_non, nn_non, i_bl_int, i_bl_str, i_bl_bool, i_bl_tuple, i_bl_list, n_bl, nn_bl, i_int_int, i_int_str, i_int_bool, i_int_tuple, i_int_list, n_int, nn_int, i_str_int, i_str_str, i_str_bool, i_str_tuple, i_str_list, n_str, nn_str, i_tup_int, i_tup_str, i_tup_bool, i_tup_tuple, i_tup_list, n_tup, nn_tup, i_lst_int, i_lst_str, i_lst_bool, i_lst_tuple, i_lst_list, n_lst, nn_lst, i_dic_int, i_dic_str, i_dic_bool, i_dic_tuple, i_dic_list, n_dic, nn_dic])
local macro_rules | `(tactic| walk_at "evh") => `(tactic| simp -implicitDefEqProofs only [v_c, v_var, v_varK, v_bin, v_binK1, v_binK2, v_pairK, v_un, v_unK, v_app, v_appK, v_call, v_callK, v_nil, v_cons, v_consK1, v_consK2, v_tup, v_lst, v_lstK, v_disp, v_ix, v_ixK1, v_ixP, v_ixT, v_ixL, at0, at1, at2, at3, at4, v_bl, v_blK, v_tru, v_truK, v_truN, v_mnot, v_notK, v_mand, v_andT, v_andF, v_mor, v_orT, v_orF, v_yes, v_xand, v_xandT, v_xandF, v_xor, v_xorT, v_xorF, v_xnot, v_xnotK, v_xif, v_xifT, v_xifF, v_ch, v_chK1, v_chK2, v_chT, v_chF, v_chK4, v_sli, v_sliK1, v_sliK2, v_sliT, v_sliL, v_onone, v_osome, v_osoK, v_iof, v_iofT, v_iofL, v_iarg, v_snil, v_seq, v_seqN, v_seqR, v_seqB, v_seqC, v_sif, v_ifT, v_ifF, v_ret, v_retK, v_asg, v_asgN, v_asgT, v_put0, v_put1, v_bk, v_ct, v_pool, v_poolK1, v_poolK2, v_pool1, v_pool2, v_pool3, v_for, v_forK, v_for0, v_for1, v_putN, v_forK1, v_forN, v_forC, v_forB, v_forR, v_par3, v_par3K1, v_par3K2, v_par3K3, v_par, v_parK1, v_parK2, v_vsh, v_vshK, v_run, v_runR, v_runN, v_comp, v_put, v_putK, v_own, v_ownK, v_lapp, v_ladd, v_laddK1, v_laddK2, v_xo, v_xoK, v_sapp, v_sappK1, v_sappK2, v_sappK3, v_lenO, v_lenK1, v_frz, v_fold0, v_fold1, v_frzK, v_frzN, v_frozen1, v_frozen2, v_frozen3, v_mth, v_mthK1, v_mthK2, v_mulI, v_min, v_list1, v_list2, o_add, o_sub, o_mul, o_mod, o_div, o_lt, o_le, o_gt, o_ge, o_int, o_neg, o_lenL, o_lenT, o_eqI, o_eqS, o_eqB, o_neI, o_neS, o_neB, o_tupL, o_tupT, startE, ob_addL, ob_addT, ob_tupK, ob_dispK, v_star, v_starK1, v_starK2, v_starK3, v_starK3i, v_dict, v_dictK, v_pair0, v_pair1, v_pairK1, v_pairK2s, v_pairK3, v_fld, v_fldK, v_met, v_metK2, v_new, v_newK, v_rev, v_revT, v_revL, v_ext, v_extK1, v_extT, v_extL, ox_neI, ox_neS, ox_neB, ox_neNI, ox_neIN, atm2, atm3, atm4, at2c1, at3c1, at4c1, at3c2, at4c2, v_vdic, v_vdicD, v_key, v_keyK1, v_keyK2, v_keyK2i, str_inj, o_in1, o_in2, o_in3, String.reduceEq, v_listL, v_listT, Bool.or_true, Bool.true_or, Bool.or_false, Bool.false_or, Bool.and_true, Bool.true_and, Bool.and_false, Bool.false_and, wipeE, List.length_map, List.length_append, List.map_cons, List.map_nil, List.length_cons, List.length_nil, List.cons_append, List.nil_append, List.append_nil, List.getElem?_cons_zero, List.getElem?_cons_succ, List.set_cons_zero, List.set_cons_succ, List.replicate_succ, List.replicate_zero, Nat.reduceAdd, Nat.reduceSub, Nat.reduceLeDiff, Int.reduceNeg, Int.reducePow, Int.reduceLT, Int.reduceLE, Int.reduceNe, Int.reduceEq, Int.reduceAdd, nI, Int.reduceSub, Int.natAbs, ne_eq, not_false_eq_true, and_true, true_and, and_self, decide_true, decide_false, Nat.reduceLT, Nat.reduceEqDiff, reduceCtorEq, Bool.not_true, Bool.not_false, i_non_int, i_non_str, i_non_bool, i_non_tuple, i_non_list, n_non, nn_non, i_bl_int, i_bl_str, i_bl_bool, i_bl_tuple, i_bl_list, n_bl, nn_bl, i_int_int, i_int_str, i_int_bool, i_int_tuple, i_int_list, n_int, nn_int, i_str_int, i_str_str, i_str_bool, i_str_tuple, i_str_list, n_str, nn_str, i_tup_int, i_tup_str, i_tup_bool, i_tup_tuple, i_tup_list, n_tup, nn_tup, i_lst_int, i_lst_str, i_lst_bool, i_lst_tuple, i_lst_list, n_lst, nn_lst, i_dic_int, i_dic_str, i_dic_bool, i_dic_tuple, i_dic_list, n_dic, nn_dic, *])

/-! ### drawn formulas -/
def DrawOk (R : RC) : Prop := ∀ (S : List D) (many : Int), PV S → 0 < many → many < 1000000 → ∃ (v : Int) (S' : List D), PV S' ∧ 0 ≤ v ∧ v < many ∧ R "_law_draw" [.pool, .int many] S = some (.int v, S')
def PickOk (R : RC) : Prop := ∀ (S : List D) (items : List D), PV S → items ≠ [] → items.length ≤ 1000 → ∃ (d : D) (S' : List D), d ∈ items ∧ PV S' ∧ R "_law_pick" [.pool, .lst items] S = some (d, S')
theorem drawOk (k : Nat) (hk : 2 ≤ k) : DrawOk (G.run k) := fun S many h h0 h1 => by
  obtain ⟨m, rfl⟩ := Int.eq_ofNat_of_zero_le (Int.le_of_lt h0)
  obtain ⟨v, S', p, v1, e⟩ := lv_draw k hk h m (by omega) (by omega)
  exact ⟨v, S', p, Int.natCast_nonneg v, by omega, e⟩
theorem pickOk (k : Nat) (hk : 3 ≤ k) : PickOk (G.run k) := fun S items h hn hl => lv_pick k hk h hn (by omega)
theorem pick_strR {R : RC} (hp : PickOk R) {S : List D} (h : PV S) {xs : List Str} (hn : xs ≠ []) (hl : xs.length ≤ 1000) : ∃ (x : Str) (S' : List D), x ∈ xs ∧ PV S' ∧ R "_law_pick" [.pool, strsD xs] S = some (.str x, S') := by
  obtain ⟨d, S1, hm, p1, e⟩ := hp S (xs.map .str) h (by simpa using hn) (by simpa using hl)
  obtain ⟨x, hx, rfl⟩ := List.mem_map.mp hm
  exact ⟨x, S1, hx, p1, e⟩
def FGen (R : RC) (names kinds : List Str) (deep : Nat) : Prop := ∀ S, PV S → ∃ (φ : Fm) (S' : List D), PV S' ∧ φ.Ok kinds names ∧ φ.depth ≤ deep ∧ R "_law_formula" [.pool, strsD names, strsD kinds, .int deep] S = some (φ.toD, S')
def BGen (R : RC) (names kinds : List Str) (deep : Nat) : Prop := ∀ S, PV S → ∃ (φ : Fm) (S' : List D), PV S' ∧ φ.Ok kinds names ∧ φ.depth ≤ deep ∧ R "_law_bound" [.pool, strsD names, strsD kinds, .int deep] S = some (φ.toD, S')
theorem deep1 {n : Nat} : ((n + 1 : Nat) : Int) - 1 = (n : Int) := by omega
theorem bound_body (R : RC) (hd : DrawOk R) (hp : PickOk R) {names kinds : List Str} {n : Nat} (hl : names.length ≤ 500) (hf : ∀ x : Str, FGen R (names ++ [x]) kinds n) {S : List D} (h : PV S) :
    ∃ (φ : Fm) (S' : List D), PV S' ∧ φ.Ok kinds names ∧ φ.depth ≤ n + 1 ∧ runB 7 (b__law_bound R) [.pool, strsD names, strsD kinds, .int ((n + 1 : Nat) : Int)] S = some (φ.toD, S') := by
  obtain ⟨x, S1, hx, p1, e1⟩ := pick_strR hp h (xs := ["x", "y", "z"]) (by simp) (by simp)
  obtain ⟨φ, S2, p2, o2, d2, e2⟩ := hf x S1 p1
  obtain ⟨t, S3, p3, t0, t1, e3⟩ := hd S2 7 p2 (by decide) (by decide)
  have e1' : R "_law_pick" [.pool, .lst [.str "x", .str "y", .str "z"]] S = some (.str x, S1) := e1
  have e2' : R "_law_formula" [.pool, .lst (names.map D.str ++ [.str x]), strsD kinds, .int (((n + 1 : Nat) : Int) - 1)] S1 = some (φ.toD, S2) := by
    rw [deep1]
    have q : strsD (names ++ [x]) = .lst (names.map D.str ++ [.str x]) := by unfold strsD; simp
    rw [← q]
    exact e2
  have ea : addD (strsD names) (.lst [.str x]) = some (.lst (names.map D.str ++ [.str x])) := o_addL (by simp; omega)
  unfold b__law_bound s__law_bound_0 s__law_bound_1 s__law_bound_2 s__law_bound_3 s__law_bound_4
  walk_at "ev"
  rw [e1']
  walk_at "ev"
  rw [ea]
  walk_at "ev"
  rw [e2']
  walk_at "ev"
  rw [e3]
  walk_at "ev"
  by_cases h3 : t < 3
  · simp only [h3, decide_true]
    walk_at "ev"
    exact ⟨.some x φ, S3, p3, ⟨hx, o2⟩, by simp only [Fm.depth]; omega, rfl⟩
  · simp only [h3, decide_false]
    walk_at "ev"
    by_cases h5 : t < 5
    · simp only [h5, decide_true]
      walk_at "ev"
      exact ⟨.each x φ, S3, p3, ⟨hx, o2⟩, by simp only [Fm.depth]; omega, rfl⟩
    · simp only [h5, decide_false]
      obtain ⟨m, S4, p4, m0, m1, e4⟩ := hd S3 3 p3 (by decide) (by decide)
      walk_at "ev"
      rw [e4]
      walk_at "ev"
      exact ⟨.many (m + 1) x φ, S4, p4, ⟨⟨by omega, by omega⟩, hx, o2⟩, by simp only [Fm.depth]; omega, rfl⟩
theorem formula_body (R : RC) (hd : DrawOk R) (hp : PickOk R) {names kinds : List Str} {n : Nat} (hn : names ≠ []) (hk : kinds ≠ []) (hl : names.length ≤ 500) (hlk : kinds.length ≤ 500) (hf : ∀ m, n = m + 1 → FGen R names kinds m) (hb : 0 < n → BGen R names kinds n) {S : List D} (h : PV S) :
    ∃ (φ : Fm) (S' : List D), PV S' ∧ φ.Ok kinds names ∧ φ.depth ≤ n ∧ runB 6 (b__law_formula R) [.pool, strsD names, strsD kinds, .int (n : Int)] S = some (φ.toD, S') := by
  have first : ∃ (t : Int) (S1 : List D), PV S1 ∧ 0 ≤ t ∧ (n = 0 → t < 3) ∧ s__law_formula_0 R [some (.sh .pool), some (.sh (strsD names)), some (.sh (strsD kinds)), some (.sh (.int n)), none, none] S =
      some (.nx, [some (.sh .pool), some (.sh (strsD names)), some (.sh (strsD kinds)), some (.sh (.int n)), some (.sh (.int t)), none], S1) := by
    unfold s__law_formula_0
    walk_at "ev"
    by_cases hz : n = 0
    · subst hz
      obtain ⟨t, S1, p1, t0, t1, e1⟩ := hd S 3 h (by decide) (by decide)
      simp only [Int.natCast_zero, Int.lt_irrefl, decide_false]
      walk_at "ev"
      rw [e1]
      walk_at "ev"
      exact ⟨t, S1, p1, t0, fun _ => t1, rfl⟩
    · obtain ⟨t, S1, p1, t0, t1, e1⟩ := hd S 12 h (by decide) (by decide)
      simp only [show (0 : Int) < (n : Int) by omega, decide_true]
      walk_at "ev"
      rw [e1]
      walk_at "ev"
      exact ⟨t, S1, p1, t0, fun z => absurd z hz, rfl⟩
  obtain ⟨t, S1, p1, t0, tz, e1⟩ := first
  unfold b__law_formula
  walk_at "ev"
  rw [e1]
  walk_at "ev"
  unfold s__law_formula_1
  by_cases h3 : t < 3
  · walk_at "ev"
    simp only [h3, decide_true]
    walk_at "ev"
    obtain ⟨u, S2, p2, u0, u1, e2⟩ := hd S1 2 p1 (by decide) (by decide)
    have isCase : ∀ S2, PV S2 → ∃ (φ : Fm) (S' : List D), PV S' ∧ φ.Ok kinds names ∧ φ.depth ≤ n ∧ ∃ k S3, R "_law_pick" [.pool, strsD kinds] S2 = some (.str k, S3) ∧ ∃ x, R "_law_pick" [.pool, strsD names] S3 = some (.str x, S') ∧ φ = .is k x := fun S2 p2 => by
      obtain ⟨k, S3, hk3, p3, e3⟩ := pick_strR hp p2 hk (by omega)
      obtain ⟨x, S4, hx4, p4, e4⟩ := pick_strR hp p3 hn (by omega)
      exact ⟨.is k x, S4, p4, ⟨hk3, hx4⟩, Nat.zero_le _, k, S3, e3, x, e4, rfl⟩
    by_cases hz : t = 0
    · simp only [hz, decide_true]
      walk_at "ev"
      rw [e2]
      walk_at "ev"
      by_cases hu : u = 0
      · simp only [hu, decide_true]
        walk_at "ev"
        obtain ⟨x, S3, hx3, p3, e3⟩ := pick_strR hp p2 hn (by omega)
        obtain ⟨y, S4, hy4, p4, e4⟩ := pick_strR hp p3 hn (by omega)
        rw [e3]
        walk_at "ev"
        rw [e4]
        walk_at "ev"
        exact ⟨.same x y, S4, p4, ⟨hx3, hy4⟩, Nat.zero_le _, rfl⟩
      · simp only [hu, decide_false]
        walk_at "ev"
        obtain ⟨φ, S', p', o', d', k, S3, e3, x, e4, rfl⟩ := isCase S2 p2
        rw [e3]
        walk_at "ev"
        rw [e4]
        walk_at "ev"
        exact ⟨_, S', p', o', d', rfl⟩
    · simp only [hz, decide_false]
      walk_at "ev"
      obtain ⟨φ, S', p', o', d', k, S3, e3, x, e4, rfl⟩ := isCase S1 p1
      rw [e3]
      walk_at "ev"
      rw [e4]
      walk_at "ev"
      exact ⟨_, S', p', o', d', rfl⟩
  · walk_at "ev"
    simp only [h3, decide_false]
    walk_at "ev"
    obtain ⟨m, rfl⟩ : ∃ m, n = m + 1 := ⟨n - 1, by
      have : n ≠ 0 := fun z => h3 (tz z)
      omega⟩
    have hfm := hf m rfl
    unfold s__law_formula_2
    by_cases h5 : t < 5
    · obtain ⟨φ, S2, p2, o2, d2, e2⟩ := hfm S1 p1
      walk_at "ev"
      simp only [h5, decide_true]
      walk_at "ev"
      rw [deep1, e2]
      walk_at "ev"
      exact ⟨.not φ, S2, p2, o2, by simp only [Fm.depth]; omega, rfl⟩
    · walk_at "ev"
      simp only [h5, decide_false]
      walk_at "ev"
      unfold s__law_formula_3
      by_cases h8 : t < 8
      · obtain ⟨φ, S2, p2, o2, d2, e2⟩ := hfm S1 p1
        obtain ⟨w, S3, hw, p3, e3⟩ := pick_strR hp p2 (xs := ["both", "either"]) (by simp) (by simp)
        have e3' : R "_law_pick" [.pool, .lst [.str "both", .str "either"]] S2 = some (.str w, S3) := e3
        obtain ⟨ψ, S4, p4, o4, d4, e4⟩ := hfm S3 p3
        walk_at "ev"
        simp only [h8, decide_true]
        walk_at "ev"
        rw [deep1, e2]
        walk_at "ev"
        rw [e3']
        walk_at "ev"
        rw [deep1, e4]
        walk_at "ev"
        rcases List.mem_cons.mp hw with rfl | hw
        · exact ⟨.both φ ψ, S4, p4, ⟨o2, o4⟩, by simp only [Fm.depth]; omega, rfl⟩
        · rcases List.mem_cons.mp hw with rfl | hw
          · exact ⟨.either φ ψ, S4, p4, ⟨o2, o4⟩, by simp only [Fm.depth]; omega, rfl⟩
          · cases hw
      · walk_at "ev"
        simp only [h8, decide_false]
        walk_at "ev"
        unfold s__law_formula_4
        walk_at "ev"
        obtain ⟨φ, S2, p2, o2, d2, e2⟩ := hb (Nat.succ_pos m) S1 p1
        rw [e2]
        walk_at "ev"
        exact ⟨φ, S2, p2, o2, d2, rfl⟩
theorem lv_gen : ∀ (n k : Nat), 2 * n + 4 ≤ k → ∀ (kinds : List Str), kinds ≠ [] → kinds.length ≤ 100 → (∀ names : List Str, names ≠ [] → names.length + n ≤ 100 → FGen (G.run k) names kinds n) ∧ ∀ names : List Str, names.length + n + 1 ≤ 100 → BGen (G.run (k + 1)) names kinds (n + 1)
  | n, k, hk, kinds, hkn, hkl => by
    obtain ⟨k, rfl⟩ : ∃ j, k = j + 4 := ⟨k - 4, by omega⟩
    have F : ∀ names : List Str, names ≠ [] → names.length + n ≤ 100 → FGen (G.run (k + 4)) names kinds n := fun names hn hl S h => by
      rw [show k + 4 = (k + 3) + 1 from rfl]
      obtain ⟨φ, S', p, o, d, e⟩ := formula_body (G.run (k + 3)) (drawOk _ (by omega)) (pickOk _ (by omega)) (n := n) hn hkn (by omega) (by omega) (fun m hm => by
        subst hm
        exact (lv_gen m (k + 3) (by omega) kinds hkn hkl).1 names hn (by omega)) (fun hpos => by
        obtain ⟨m, rfl⟩ : ∃ m, n = m + 1 := ⟨n - 1, by omega⟩
        exact (lv_gen m (k + 2) (by omega) kinds hkn hkl).2 names (by omega)) h
      exact ⟨φ, S', p, o, d, by rw [run__law_formula]; exact e⟩
    refine ⟨F, fun names hl S h => ?_⟩
    obtain ⟨φ, S', p, o, d, e⟩ := bound_body (G.run (k + 4)) (drawOk _ (by omega)) (pickOk _ (by omega)) (n := n) (by omega) (fun x => F (names ++ [x]) (by simp) (by simp; omega)) h
    exact ⟨φ, S', p, o, d, by rw [run__law_bound]; exact e⟩
theorem lv_formula (k : Nat) (n : Nat) (hk : 2 * n + 4 ≤ k) {kinds names : List Str} (hkn : kinds ≠ []) (hkl : kinds.length ≤ 20) (hn : names ≠ []) (hnl : names.length ≤ 20) (hn2 : n ≤ 20) {S : List D} (h : PV S) :
    ∃ (φ : Fm) (S' : List D), PV S' ∧ φ.Ok kinds names ∧ φ.depth ≤ n ∧ G.run k "_law_formula" [.pool, strsD names, strsD kinds, .int (n : Int)] S = some (φ.toD, S') :=
  (lv_gen n k hk kinds hkn (by omega)).1 names hn (by omega) S h
def SGen (R : RC) (kinds : List Str) (deep : Nat) : Prop := ∀ S, PV S → ∃ (φ : Fm) (S' : List D), PV S' ∧ φ.Ok kinds [] ∧ φ.depth ≤ deep + 2 ∧ φ.rank < 4 ∧ R "_law_sentence" [.pool, strsD kinds, .int deep] S = some (φ.toD, S')
theorem sentence_body (R : RC) (hd : DrawOk R) (hp : PickOk R) {kinds : List Str} {n : Nat} (hk : kinds ≠ []) (hlk : kinds.length ≤ 500) (hb : BGen R [] kinds (n + 2)) (hb1 : BGen R [] kinds (n + 1)) (hr : ∀ (φ : Fm) S, φ.depth ≤ n + 4 → R "_law_rank" [φ.toD] S = some (.int φ.rank, S)) {S : List D} (h : PV S) :
    ∃ (φ : Fm) (S' : List D), PV S' ∧ φ.Ok kinds [] ∧ φ.depth ≤ n + 4 ∧ φ.rank < 4 ∧ runB 4 (b__law_sentence R) [.pool, strsD kinds, .int ((n + 2 : Nat) : Int)] S = some (φ.toD, S') := by
  have nil : strsD [] = .lst [] := rfl
  obtain ⟨φ, S1, p1, o1, d1, e1⟩ := hb S h
  rw [nil] at e1
  have st1 : ∃ (ψ : Fm) (S2 : List D), PV S2 ∧ ψ.Ok kinds [] ∧ ψ.depth ≤ n + 3 ∧ s__law_sentence_1 R [some (.sh .pool), some (.sh (strsD kinds)), some (.sh (.int ((n + 2 : Nat) : Int))), some (.sh φ.toD)] S1 =
      some (.nx, [some (.sh .pool), some (.sh (strsD kinds)), some (.sh (.int ((n + 2 : Nat) : Int))), some (.sh ψ.toD)], S2) := by
    unfold s__law_sentence_1
    obtain ⟨t, S2, p2, t0, t1, e2⟩ := hd S1 5 p1 (by decide) (by decide)
    walk_at "ev"
    rw [e2]
    walk_at "ev"
    by_cases hz : t = 0
    · simp only [hz, decide_true]
      walk_at "ev"
      obtain ⟨w, S3, hw, p3, e3⟩ := pick_strR hp p2 (xs := ["both", "either"]) (by simp) (by simp)
      have e3' : R "_law_pick" [.pool, .lst [.str "both", .str "either"]] S2 = some (.str w, S3) := e3
      obtain ⟨ψ, S4, p4, o4, d4, e4⟩ := hb1 S3 p3
      rw [nil] at e4
      rw [e3']
      walk_at "ev"
      rw [show ((n + 2 : Nat) : Int) - 1 = ((n + 1 : Nat) : Int) by omega, e4]
      walk_at "ev"
      rcases List.mem_cons.mp hw with rfl | hw
      · exact ⟨.both φ ψ, S4, p4, ⟨o1, o4⟩, by simp only [Fm.depth]; omega, rfl⟩
      · rcases List.mem_cons.mp hw with rfl | hw
        · exact ⟨.either φ ψ, S4, p4, ⟨o1, o4⟩, by simp only [Fm.depth]; omega, rfl⟩
        · cases hw
    · simp only [hz, decide_false]
      walk_at "ev"
      exact ⟨φ, S2, p2, o1, by omega, rfl⟩
  obtain ⟨ψ, S2, p2, o2, d2, e2⟩ := st1
  have st2 : ∃ (χ : Fm) (S3 : List D), PV S3 ∧ χ.Ok kinds [] ∧ χ.depth ≤ n + 4 ∧ s__law_sentence_2 R [some (.sh .pool), some (.sh (strsD kinds)), some (.sh (.int ((n + 2 : Nat) : Int))), some (.sh ψ.toD)] S2 =
      some (.nx, [some (.sh .pool), some (.sh (strsD kinds)), some (.sh (.int ((n + 2 : Nat) : Int))), some (.sh χ.toD)], S3) := by
    unfold s__law_sentence_2
    obtain ⟨t, S3, p3, t0, t1, e3⟩ := hd S2 5 p2 (by decide) (by decide)
    walk_at "ev"
    rw [e3]
    walk_at "ev"
    by_cases hz : t = 0
    · simp only [hz, decide_true]
      walk_at "ev"
      exact ⟨.not ψ, S3, p3, o2, by simp only [Fm.depth]; omega, rfl⟩
    · simp only [hz, decide_false]
      walk_at "ev"
      exact ⟨ψ, S3, p3, o2, by omega, rfl⟩
  obtain ⟨χ, S3, p3, o3, d3, e3⟩ := st2
  unfold b__law_sentence s__law_sentence_0
  walk_at "ev"
  rw [e1]
  walk_at "ev"
  rw [e2]
  walk_at "ev"
  rw [e3]
  walk_at "ev"
  unfold s__law_sentence_3
  walk_at "ev"
  rw [hr χ S3 d3]
  walk_at "ev"
  by_cases h4 : χ.rank < 4
  · simp only [h4, decide_true]
    walk_at "ev"
    exact ⟨χ, S3, p3, o3, d3, h4, rfl⟩
  · simp only [h4, decide_false]
    walk_at "ev"
    obtain ⟨m, S4, p4, m0, m1, e4⟩ := hd S3 4 p3 (by decide) (by decide)
    rw [e4]
    walk_at "ev"
    obtain ⟨k, S5, hk5, p5, e5⟩ := pick_strR hp p4 hk (by omega)
    rw [e5]
    walk_at "ev"
    exact ⟨.many m "x" (.is k "x"), S5, p5, ⟨⟨by omega, by omega⟩, by simp, hk5, by simp⟩, by simp only [Fm.depth]; omega, by simp only [Fm.rank]; omega, rfl⟩
theorem lv_sentence (k : Nat) (n : Nat) (hk : 2 * n + 13 ≤ k) {kinds : List Str} (hkn : kinds ≠ []) (hkl : kinds.length ≤ 20) (hn : n ≤ 20) {S : List D} (h : PV S) :
    ∃ (φ : Fm) (S' : List D), PV S' ∧ φ.Ok kinds [] ∧ φ.depth ≤ n + 4 ∧ φ.rank < 4 ∧ G.run k "_law_sentence" [.pool, strsD kinds, .int ((n + 2 : Nat) : Int)] S = some (φ.toD, S') := by
  obtain ⟨j, rfl⟩ : ∃ j, k = j + 4 := ⟨k - 4, by omega⟩
  obtain ⟨φ, S', p, o, d, r, e⟩ := sentence_body (G.run (j + 3)) (drawOk _ (by omega)) (pickOk _ (by omega)) (n := n) hkn (by omega)
    ((lv_gen (n + 1) (j + 2) (by omega) kinds hkn (by omega)).2 [] (by simp; omega)) ((lv_gen n (j + 2) (by omega) kinds hkn (by omega)).2 [] (by simp; omega)) (fun φ S hd => lv_lrank (n + 4) _ φ S hd (by omega)) h
  exact ⟨φ, S', p, o, d, r, by rw [run__law_sentence]; exact e⟩
end Ip

set_option maxHeartbeats 4000000
namespace Ip
open PySem L2
local macro_rules | `(tactic| walk_at "ev") => `(tactic| simp -implicitDefEqProofs only [v_c, v_var, v_varK, v_bin, v_binK1, v_binK2, v_pairK, v_un, v_unK, v_app, v_appK, v_call, v_callK, v_nil, v_cons, v_consK1, v_consK2, v_tup, v_lst, v_lstK, v_disp, v_ix, v_ixK1, v_ixP, v_ixT, v_ixL, at0, at1, at2, at3, at4, v_bl, v_blK, v_tru, v_truK, v_truN, v_mnot, v_notK, v_mand, v_andT, v_andF, v_mor, v_orT, v_orF, v_yes, v_xand, v_xandT, v_xandF, v_xor, v_xorT, v_xorF, v_xnot, v_xnotK, v_xif, v_xifT, v_xifF, v_ch, v_chK1, v_chK2, v_chT, v_chF, v_chK4, v_sli, v_sliK1, v_sliK2, v_sliT, v_sliL, v_onone, v_osome, v_osoK, v_iof, v_iofT, v_iofL, v_iarg, v_snil, v_seq, v_seqN, v_seqR, v_seqB, v_seqC, v_sif, v_ifT, v_ifF, v_ret, v_retK, v_asg, v_asgN, v_asgT, v_put0, v_put1, v_bk, v_ct, v_pool, v_poolK1, v_poolK2, v_pool1, v_pool2, v_pool3, v_for, v_forK, v_for0, v_for1, v_putN, v_forK1, v_forN, v_forC, v_forB, v_forR, v_par3, v_par3K1, v_par3K2, v_par3K3, v_par, v_parK1, v_parK2, v_vsh, v_vshK, v_run, v_runR, v_runN, v_comp, v_put, v_putK, v_own, v_ownK, v_lapp, v_ladd, v_laddK1, v_laddK2, v_xo, v_xoK, v_sapp, v_sappK1, v_sappK2, v_sappK3, v_lenO, v_lenK1, v_frz, v_fold0, v_fold1, v_frzK, v_frzN, v_frozen1, v_frozen2, v_frozen3, v_mth, v_mthK1, v_mthK2, v_mulI, v_min, v_list1, v_list2, o_add, o_sub, o_mul, o_mod, o_div, o_lt, o_le, o_gt, o_ge, o_int, o_neg, o_lenL, o_lenT, o_eqI, o_eqS, o_eqB, o_neI, o_neS, o_neB, o_tupL, o_tupT, startE, ob_addL, ob_addT, ob_tupK, ob_dispK, v_star, v_starK1, v_starK2, v_starK3, v_starK3i, v_dict, v_dictK, v_pair0, v_pair1, v_pairK1, v_pairK2s, v_pairK3, v_fld, v_fldK, v_met, v_metK2, v_new, v_newK, v_rev, v_revT, v_revL, v_ext, v_extK1, v_extT, v_extL, ox_neI, ox_neS, ox_neB, ox_neNI, ox_neIN, atm2, atm3, atm4, at2c1, at3c1, at4c1, at3c2, at4c2, v_vdic, v_vdicD, v_key, v_keyK1, v_keyK2, v_keyK2i, str_inj, o_in1, o_in2, o_in3, String.reduceEq, v_listL, v_listT, Bool.or_true, Bool.true_or, Bool.or_false, Bool.false_or, Bool.and_true, Bool.true_and, Bool.and_false, Bool.false_and, wipeE, List.length_map, List.length_append, List.map_cons, List.map_nil, List.length_cons, List.length_nil, List.cons_append, List.nil_append, List.append_nil, List.getElem?_cons_zero, List.getElem?_cons_succ, List.set_cons_zero, List.set_cons_succ, List.replicate_succ, List.replicate_zero, Nat.reduceAdd, Nat.reduceSub, Nat.reduceLeDiff, Int.reduceNeg, Int.reducePow, Int.reduceLT, Int.reduceLE, Int.reduceNe, Int.reduceEq, Int.reduceAdd, nI, Int.reduceSub, Int.natAbs, ne_eq, not_false_eq_true, and_true, true_and, and_self, decide_true, decide_false, Nat.reduceLT, Nat.reduceEqDiff, reduceCtorEq, Bool.not_true, Bool.not_false, i_non_int, i_non_str, i_non_bool, i_non_tuple, i_non_list, n_non, nn_non, i_bl_int, i_bl_str, i_bl_bool, i_bl_tuple, i_bl_list, n_bl, nn_bl, i_int_int, i_int_str, i_int_bool, i_int_tuple, i_int_list, n_int, nn_int, i_str_int, i_str_str, i_str_bool, i_str_tuple, i_str_list, n_str, nn_str, i_tup_int, i_tup_str, i_tup_bool, i_tup_tuple, i_tup_list, n_tup, nn_tup, i_lst_int, i_lst_str, i_lst_bool, i_lst_tuple, i_lst_list, n_lst, nn_lst, i_dic_int, i_dic_str, i_dic_bool, i_dic_tuple, i_dic_list, n_dic, nn_dic])
local macro_rules | `(tactic| walk_at "evh") => `(tactic| simp -implicitDefEqProofs only [v_c, v_var, v_varK, v_bin, v_binK1, v_binK2, v_pairK, v_un, v_unK, v_app, v_appK, v_call, v_callK, v_nil, v_cons, v_consK1, v_consK2, v_tup, v_lst, v_lstK, v_disp, v_ix, v_ixK1, v_ixP, v_ixT, v_ixL, at0, at1, at2, at3, at4, v_bl, v_blK, v_tru, v_truK, v_truN, v_mnot, v_notK, v_mand, v_andT, v_andF, v_mor, v_orT, v_orF, v_yes, v_xand, v_xandT, v_xandF, v_xor, v_xorT, v_xorF, v_xnot, v_xnotK, v_xif, v_xifT, v_xifF, v_ch, v_chK1, v_chK2, v_chT, v_chF, v_chK4, v_sli, v_sliK1, v_sliK2, v_sliT, v_sliL, v_onone, v_osome, v_osoK, v_iof, v_iofT, v_iofL, v_iarg, v_snil, v_seq, v_seqN, v_seqR, v_seqB, v_seqC, v_sif, v_ifT, v_ifF, v_ret, v_retK, v_asg, v_asgN, v_asgT, v_put0, v_put1, v_bk, v_ct, v_pool, v_poolK1, v_poolK2, v_pool1, v_pool2, v_pool3, v_for, v_forK, v_for0, v_for1, v_putN, v_forK1, v_forN, v_forC, v_forB, v_forR, v_par3, v_par3K1, v_par3K2, v_par3K3, v_par, v_parK1, v_parK2, v_vsh, v_vshK, v_run, v_runR, v_runN, v_comp, v_put, v_putK, v_own, v_ownK, v_lapp, v_ladd, v_laddK1, v_laddK2, v_xo, v_xoK, v_sapp, v_sappK1, v_sappK2, v_sappK3, v_lenO, v_lenK1, v_frz, v_fold0, v_fold1, v_frzK, v_frzN, v_frozen1, v_frozen2, v_frozen3, v_mth, v_mthK1, v_mthK2, v_mulI, v_min, v_list1, v_list2, o_add, o_sub, o_mul, o_mod, o_div, o_lt, o_le, o_gt, o_ge, o_int, o_neg, o_lenL, o_lenT, o_eqI, o_eqS, o_eqB, o_neI, o_neS, o_neB, o_tupL, o_tupT, startE, ob_addL, ob_addT, ob_tupK, ob_dispK, v_star, v_starK1, v_starK2, v_starK3, v_starK3i, v_dict, v_dictK, v_pair0, v_pair1, v_pairK1, v_pairK2s, v_pairK3, v_fld, v_fldK, v_met, v_metK2, v_new, v_newK, v_rev, v_revT, v_revL, v_ext, v_extK1, v_extT, v_extL, ox_neI, ox_neS, ox_neB, ox_neNI, ox_neIN, atm2, atm3, atm4, at2c1, at3c1, at4c1, at3c2, at4c2, v_vdic, v_vdicD, v_key, v_keyK1, v_keyK2, v_keyK2i, str_inj, o_in1, o_in2, o_in3, String.reduceEq, v_listL, v_listT, Bool.or_true, Bool.true_or, Bool.or_false, Bool.false_or, Bool.and_true, Bool.true_and, Bool.and_false, Bool.false_and, wipeE, List.length_map, List.length_append, List.map_cons, List.map_nil, List.length_cons, List.length_nil, List.cons_append, List.nil_append, List.append_nil, List.getElem?_cons_zero, List.getElem?_cons_succ, List.set_cons_zero, List.set_cons_succ, List.replicate_succ, List.replicate_zero, Nat.reduceAdd, Nat.reduceSub, Nat.reduceLeDiff, Int.reduceNeg, Int.reducePow, Int.reduceLT, Int.reduceLE, Int.reduceNe, Int.reduceEq, Int.reduceAdd, nI, Int.reduceSub, Int.natAbs, ne_eq, not_false_eq_true, and_true, true_and, and_self, decide_true, decide_false, Nat.reduceLT, Nat.reduceEqDiff, reduceCtorEq, Bool.not_true, Bool.not_false, i_non_int, i_non_str, i_non_bool, i_non_tuple, i_non_list, n_non, nn_non, i_bl_int, i_bl_str, i_bl_bool, i_bl_tuple, i_bl_list, n_bl, nn_bl, i_int_int, i_int_str, i_int_bool, i_int_tuple, i_int_list, n_int, nn_int, i_str_int, i_str_str, i_str_bool, i_str_tuple, i_str_list, n_str, nn_str, i_tup_int, i_tup_str, i_tup_bool, i_tup_tuple, i_tup_list, n_tup, nn_tup, i_lst_int, i_lst_str, i_lst_bool, i_lst_tuple, i_lst_list, n_lst, nn_lst, i_dic_int, i_dic_str, i_dic_bool, i_dic_tuple, i_dic_list, n_dic, nn_dic, *])

/-! ### rooms -/
abbrev Rows := List (Str × List Int)
def intsT (xs : List Int) : D := .tup (xs.map D.int)
def rowD (r : Str × List Int) : D := .tup [.str r.1, intsT r.2]
def roomD (n : Int) (rows : Rows) : D := .tup [.int n, .tup (rows.map rowD)]
def kdR (rows : Rows) : KD := rows.map fun r => (Sum.inr r.1, intsT r.2)
theorem pairs_rows : ∀ rows : Rows, pairsOfD (rows.map rowD) = some (kdR rows)
  | [] => rfl
  | r :: rows => by
    rw [List.map_cons, pairsOfD, pairs_rows rows]
    rfl
theorem merge_new : ∀ (m l : KD), ((l ++ m).map (·.1)).Nodup → mergeD l m = l ++ m
  | [], l, _ => by rw [List.append_nil]; rfl
  | kv :: m, l, h => by
    have e : putD l kv.1 kv.2 = l ++ [kv] := by
      unfold putD
      rw [if_neg]
      intro q
      obtain ⟨x, hx, e⟩ := List.any_eq_true.mp q
      have e := of_decide_eq_true e
      rw [List.map_append, List.nodup_append] at h
      exact h.2.2 x.1 (List.mem_map.mpr ⟨x, hx, rfl⟩) kv.1 (by simp) e
    show mergeD (putD l kv.1 kv.2) m = _
    rw [e, merge_new m (l ++ [kv]) (by rw [List.append_assoc]; exact h), List.append_assoc]
    rfl
def ksR (rows : Rows) : List Key := rows.map fun r => Sum.inr r.1
def dsR (rows : Rows) : List D := rows.map fun r => intsT r.2
theorem dict_rows {rows : Rows} (h : (rows.map (·.1)).Nodup) : dictD [.tup (rows.map rowD)] = some (.dic (ksR rows) (dsR rows)) := by
  have e : mergeD [] (kdR rows) = kdR rows := by
    have q := merge_new (kdR rows) [] (by
      rw [List.nil_append]
      unfold kdR
      rw [List.map_map]
      have : ((fun x : Key × D => x.1) ∘ fun r : Str × List Int => ((Sum.inr r.1 : Key), intsT r.2)) = (fun x : Str => (Sum.inr x : Key)) ∘ fun r => r.1 := rfl
      rw [this, ← List.map_map]
      exact List.Pairwise.map _ (fun a b hab q => hab (Sum.inr.inj q)) h)
    rw [List.nil_append] at q
    exact q
  show ((pairsOfD (rows.map rowD)).map fun l => ((mergeD [] l).map (·.1), (mergeD [] l).map (·.2))).map _ = _
  rw [pairs_rows]
  simp only [Option.map_some, e]
  unfold kdR ksR dsR
  rw [List.map_map, List.map_map]
  rfl
def lookR : Rows → Str → Option (List Int)
  | [], _ => none
  | r :: rows, x => if r.1 = x then some r.2 else lookR rows x
theorem look_rows : ∀ (rows : Rows) (x : Str), lookK (ksR rows) (dsR rows) (.inr x) = (lookR rows x).map intsT
  | [], _ => rfl
  | r :: rows, x => by
    show (if (Sum.inr r.1 : Key) = Sum.inr x then some (intsT r.2) else lookK (ksR rows) (dsR rows) (.inr x)) = _
    unfold lookR
    by_cases e : r.1 = x
    · rw [if_pos (by rw [e]), if_pos e]
      rfl
    · rw [if_neg (fun q => e (Sum.inr.inj q)), if_neg e, look_rows rows x]
def thingsR (rows : Rows) (x : Str) : List Int := (lookR rows x).getD []
theorem in_ints (t : Int) (xs : List Int) : inD (.int t) (intsT xs) = some (.bl (decide (t ∈ xs))) := by
  have hf : (xs.map D.int).all flatD = true := List.all_eq_true.mpr fun d hd => by
    obtain ⟨i, _, rfl⟩ := List.mem_map.mp hd
    rfl
  have e : ((xs.map D.int).any fun y => eqF y (.int t)) = decide (t ∈ xs) := by
    rw [List.any_map]
    by_cases h : t ∈ xs
    · rw [decide_eq_true h]
      exact List.any_eq_true.mpr ⟨t, h, by show (t == t) = true; simp⟩
    · rw [decide_eq_false h]
      refine List.any_eq_false.mpr fun y hy q => h ?_
      have q : (y == t) = true := q
      rw [beq_iff_eq] at q
      exact q ▸ hy
  show (if flatD (.int t) && (xs.map D.int).all flatD then some ((xs.map D.int).any fun y => eqF y (.int t)) else none).map D.bl = _
  rw [hf, e]
  rfl
theorem lv_things (k : Nat) (hk : 1 ≤ k) (S : List D) {n : Int} {rows : Rows} (h : (rows.map (·.1)).Nodup) (x : Str) : G.run k "things_of" [roomD n rows, .str x] S = some (intsT (thingsR rows x), S) := by
  obtain ⟨k, rfl⟩ : ∃ j, k = j + 1 := ⟨k - 1, by omega⟩
  have e1 := dict_rows h
  have e2 : mthD "get" (.dic (ksR rows) (dsR rows)) [.str x, .tup []] = some (intsT (thingsR rows x)) := by
    show (if ("get" : Str) = ("get" : Str) then (keyD (.str x)).map fun k => (lookK (ksR rows) (dsR rows) k).getD (.tup []) else none) = _
    rw [if_pos rfl]
    show some ((lookK (ksR rows) (dsR rows) (.inr x)).getD (.tup [])) = _
    rw [look_rows]
    unfold thingsR
    cases lookR rows x <;> rfl
  rw [run_things_of]
  unfold b_things_of s_things_of_0 roomD
  walk_at "evh"
theorem lv_lthings (k : Nat) (hk : 1 ≤ k) (S : List D) {n : Int} {rows : Rows} (h : (rows.map (·.1)).Nodup) (x : Str) : G.run k "_law_things" [roomD n rows, .str x] S = some (intsT (thingsR rows x), S) := by
  obtain ⟨k, rfl⟩ : ∃ j, k = j + 1 := ⟨k - 1, by omega⟩
  have e1 := dict_rows h
  have e2 : inD (.str x) (.dic (ksR rows) (dsR rows)) = some (.bl (lookR rows x).isSome) := by
    show ((keyD (.str x)).map fun k => (lookK (ksR rows) (dsR rows) k).isSome).map D.bl = _
    show some (D.bl (lookK (ksR rows) (dsR rows) (.inr x)).isSome) = _
    rw [look_rows, Option.isSome_map]
  rw [run__law_things]
  unfold b__law_things s__law_things_0 roomD
  walk_at "evh"
  cases hl : lookR rows x with
  | none =>
    simp only [Option.isSome_none]
    walk_at "ev"
    unfold thingsR
    rw [hl]
    rfl
  | some ys =>
    have e3 : ixK2 (.dic (ksR rows) (dsR rows)) (some (.str x, S)) = some (intsT ys, S) := by
      show ((lookK (ksR rows) (dsR rows) (.inr x)).map fun r => (r, S)) = _
      rw [look_rows, hl]
      rfl
    simp only [Option.isSome_some]
    walk_at "evh"
    unfold thingsR
    rw [hl]
    rfl
/-! ### truth -/
def upV (v : Str → Int) (x : Str) (t : Int) : Str → Int := fun y => if x = y then t else v y
def cnt (n : Nat) (p : Nat → Bool) : Nat := ((List.range n).filter p).length
def sat (n : Nat) (rows : Rows) : Fm → (Str → Int) → Bool
  | .tru, _ => true
  | .is k x, v => decide (v x ∈ thingsR rows k)
  | .same x y, v => decide (v x = v y)
  | .not f, v => !sat n rows f v
  | .both f g, v => sat n rows f v && sat n rows g v
  | .either f g, v => sat n rows f v || sat n rows g v
  | .some x f, v => decide ((0 : Int) < ((cnt n fun t => sat n rows f (upV v x (t : Int)) : Nat) : Int))
  | .each x f, v => decide (((cnt n fun t => sat n rows f (upV v x (t : Int)) : Nat) : Int) = (n : Int))
  | .many m x f, v => decide (m ≤ ((cnt n fun t => sat n rows f (upV v x (t : Int)) : Nat) : Int))
/-- the free variables are among these -/
def Fm.Cl : List Str → Fm → Prop
  | _, .tru => True
  | ns, .is _ x => x ∈ ns
  | ns, .same x y => x ∈ ns ∧ y ∈ ns
  | ns, .not f => f.Cl ns
  | ns, .both f g => f.Cl ns ∧ g.Cl ns
  | ns, .either f g => f.Cl ns ∧ g.Cl ns
  | ns, .some x f => f.Cl (ns ++ [x])
  | ns, .each x f => f.Cl (ns ++ [x])
  | ns, .many _ x f => f.Cl (ns ++ [x])
theorem Fm.Ok.cl {kinds : List Str} : ∀ {f : Fm} {ns : List Str}, f.Ok kinds ns → f.Cl ns
  | .tru, _, _ => trivial
  | .is _ _, _, h => h.2
  | .same _ _, _, h => h
  | .not f, _, h => Fm.Ok.cl (f := f) h
  | .both f g, _, h => ⟨Fm.Ok.cl (f := f) h.1, Fm.Ok.cl (f := g) h.2⟩
  | .either f g, _, h => ⟨Fm.Ok.cl (f := f) h.1, Fm.Ok.cl (f := g) h.2⟩
  | .some _ f, _, h => Fm.Ok.cl (f := f) h.2
  | .each _ f, _, h => Fm.Ok.cl (f := f) h.2
  | .many _ _ f, _, h => Fm.Ok.cl (f := f) h.2.2
/-- the dict tells the values -/
def Agr (ns : List Str) (vals : Vals') (v : Str → Int) : Prop := ∀ x ∈ ns, lookV vals x = some (v x)
theorem Agr.up {ns : List Str} {vals : Vals'} {v : Str → Int} (h : Agr ns vals v) (x : Str) (t : Int) : Agr (ns ++ [x]) (putV vals x t) (upV v x t) := fun y hy => by
  rw [lookV_put]
  unfold upV
  by_cases e : x = y
  · rw [if_pos e, if_pos e]
  · rw [if_neg e, if_neg e]
    rcases List.mem_append.mp hy with hy | hy
    · exact h y hy
    · rw [List.mem_singleton] at hy
      exact absurd hy.symm e
theorem starV {vals : Vals'} {x : Str} {t : Int} {S : List D} : starK3 (vals.map fun a => Sum.inr a.1) (vals.map fun a => D.int a.2) (.str x) (some (.int t, S)) = some (valD (putV vals x t), S) := by
  rw [v_starK3, dicP_val]
theorem starV1 {vals : Vals'} {g h : XM} {R : RC} {env : En} {S : List D} (hl : vals.length ≤ 1000) : starK1 g h R env (some (valD vals, S)) = starK2 h R env (vals.map fun a => Sum.inr a.1) (vals.map fun a => D.int a.2) (g R env S) := v_starK1 (by simpa using hl)
theorem lv_so (N : Nat) (rows : Rows) (hN : N ≤ 1000000) (hR : (rows.map (·.1)).Nodup) : ∀ (f : Fm) (k : Nat) (ns : List Str) (vals : Vals') (v : Str → Int) (S : List D), f.depth + 2 ≤ k → f.Cl ns → Agr ns vals v → vals.length + f.depth ≤ 900 → G.run k "is_so" [roomD N rows, f.toD, valD vals] S = .some (.bl (sat N rows f v), S)
  | f, k, ns, vals, v, S, hk, hc, ha, hl => by
    obtain ⟨k, rfl⟩ : ∃ j, k = j + 1 := ⟨k - 1, by omega⟩
    rw [run_is_so]
    unfold b_is_so
    have er : roomD N rows = .tup [.int N, .tup (rows.map rowD)] := rfl
    have bnd : ∀ (x : Str) (g : Fm) (xs : List D) (w : Option SV), g.depth + 2 ≤ k → g.Cl (ns ++ [x]) → vals.length + g.depth + 1 ≤ 900 → atI xs (-1) = some g.toD →
        compK (.name 6) [6] (mTru (xCall "is_so" (aCons (xVar 0) (aCons (xIx (xVar 1) (xUn negD (xC (.int 1)))) (aCons (xStar (xVar 2) (xVar 4) (xVar 6)) (aNil)))))) (xVar 6) (G.run k) [.some (.sh (.tup [.int N, .tup (rows.map rowD)])), .some (.sh (.tup xs)), .some (.sh (valD vals)), .some (.sh f.word), .some (.sh (.str x)), none, none] (.some (rangeD N, S)) =
          .some (((List.range N).filter fun (t : Nat) => sat N rows g (upV v x (t : Int))).map fun (t : Nat) => D.int (t : Int), S) := fun x g xs w hg hgc hgl hx => by
      have hw : ∃ wd, f.word = .str wd := by cases f <;> exact ⟨_, rfl⟩
      obtain ⟨wd, hw⟩ := hw
      unfold rangeD
      rw [hw, k_filt (fun (t : Nat) => D.int (t : Int)) (fun (t : Nat) => D.int (t : Int)) (fun (t : Nat) => sat N rows g (upV v x (t : Int))) (List.range N) (by rfl) (by simpa using hN) fun t ht => ?_]
      have e1 := lv_so N rows hN hR g k (ns ++ [x]) (putV vals x t) (upV v x t) S hg hgc (ha.up x t) (by have := putV_len vals x t; omega)
      have e3 : vals.length ≤ 1000 := by omega
      rw [er] at e1
      refine ⟨?_, fun _ => ?_⟩
      · walk_at "ev"
        rw [hx]
        walk_at "ev"
        rw [starV1 e3]
        walk_at "ev"
        rw [dicP_val, e1]
        walk_at "ev"
      · walk_at "ev"
    have e4 := o_rng hN
    rw [er]
    cases f with
    | tru => unfold s_is_so_0 s_is_so_1; unfold Fm.toD; walk_at "ev"; rfl
    | is q x =>
      have e5 := lv_things k (by omega) S (n := N) hR q
      have e6 := v_valX (S := S) (ha x hc)
      rw [er] at e5
      unfold s_is_so_0 s_is_so_1 s_is_so_2; unfold Fm.toD; walk_at "ev"
      rw [e6]
      walk_at "ev"
      rw [e5]
      walk_at "ev"
      rw [in_ints]
      walk_at "ev"
      rfl
    | same x y =>
      have e5 := v_valX (S := S) (ha x hc.1)
      have e6 := v_valX (S := S) (ha y hc.2)
      unfold s_is_so_0 s_is_so_1 s_is_so_2 s_is_so_3; unfold Fm.toD; walk_at "ev"
      rw [e5]
      walk_at "ev"
      rw [e6]
      walk_at "ev"
      rfl
    | not g =>
      simp only [Fm.depth] at hk hl
      have e5 := lv_so N rows hN hR g k ns vals v S (by omega) hc ha (by omega)
      rw [er] at e5
      unfold s_is_so_0 s_is_so_1 s_is_so_2 s_is_so_3 s_is_so_4; unfold Fm.toD; walk_at "evh"
      rfl
    | both g h =>
      simp only [Fm.depth] at hk hl
      have e5 := lv_so N rows hN hR g k ns vals v S (by omega) hc.1 ha (by omega)
      have e6 := lv_so N rows hN hR h k ns vals v S (by omega) hc.2 ha (by omega)
      rw [er] at e5 e6
      unfold s_is_so_0 s_is_so_1 s_is_so_2 s_is_so_3 s_is_so_4 s_is_so_5; unfold Fm.toD; walk_at "ev"
      rw [e5, show sat N rows (.both g h) v = (sat N rows g v && sat N rows h v) from rfl]
      cases sat N rows g v
      · walk_at "ev"
      · walk_at "ev"
        rw [e6]
        walk_at "ev"
    | either g h =>
      simp only [Fm.depth] at hk hl
      have e5 := lv_so N rows hN hR g k ns vals v S (by omega) hc.1 ha (by omega)
      have e6 := lv_so N rows hN hR h k ns vals v S (by omega) hc.2 ha (by omega)
      rw [er] at e5 e6
      unfold s_is_so_0 s_is_so_1 s_is_so_2 s_is_so_3 s_is_so_4 s_is_so_5 s_is_so_6; unfold Fm.toD; walk_at "ev"
      rw [e5, show sat N rows (.either g h) v = (sat N rows g v || sat N rows h v) from rfl]
      cases sat N rows g v
      · walk_at "ev"
        rw [e6]
        walk_at "ev"
      · walk_at "ev"
    | some x g =>
      simp only [Fm.depth] at hk hl
      have e5 := bnd x g [.str "some", .str x, g.toD] none (by omega) hc (by omega) rfl
      unfold s_is_so_0 s_is_so_1 s_is_so_2 s_is_so_3 s_is_so_4 s_is_so_5 s_is_so_6 s_is_so_7 s_is_so_8 s_is_so_9
      unfold Fm.word at e5
      unfold Fm.toD; walk_at "ev"
      rw [v_iargK e4, e5]
      walk_at "ev"
      rfl
    | each x g =>
      simp only [Fm.depth] at hk hl
      have e5 := bnd x g [.str "each", .str x, g.toD] none (by omega) hc (by omega) rfl
      unfold s_is_so_0 s_is_so_1 s_is_so_2 s_is_so_3 s_is_so_4 s_is_so_5 s_is_so_6 s_is_so_7 s_is_so_8 s_is_so_9
      unfold Fm.word at e5
      unfold Fm.toD; walk_at "ev"
      rw [v_iargK e4, e5]
      walk_at "ev"
      rfl
    | many m x g =>
      simp only [Fm.depth] at hk hl
      have e5 := bnd x g [.str "many", .int m, .str x, g.toD] none (by omega) hc (by omega) rfl
      unfold s_is_so_0 s_is_so_1 s_is_so_2 s_is_so_3 s_is_so_4 s_is_so_5 s_is_so_6 s_is_so_7 s_is_so_8 s_is_so_9
      unfold Fm.word at e5
      unfold Fm.toD; walk_at "ev"
      rw [v_iargK e4, e5]
      walk_at "ev"
      rfl
theorem lv_holds (N : Nat) (rows : Rows) (hN : N ≤ 1000000) (hR : (rows.map (·.1)).Nodup) (f : Fm) (k : Nat) (S : List D) (hk : f.depth + 3 ≤ k) (hc : f.Cl []) (hl : f.depth ≤ 800) (v : Str → Int) : G.run k "holds" [roomD N rows, f.toD] S = .some (.bl (sat N rows f v), S) := by
  obtain ⟨k, rfl⟩ : ∃ j, k = j + 1 := ⟨k - 1, by omega⟩
  have e1 := lv_so N rows hN hR f k [] [] v S (by omega) hc (fun x hx => by cases hx) (by simpa using by omega)
  have e2 : valD [] = .dic [] [] := rfl
  rw [e2] at e1
  rw [run_holds]
  unfold b_holds s_holds_0
  walk_at "evh"
theorem foldl_cnt (p : Nat → Bool) (st : Nat → Nat × Option SV × Option SV → Nat × Option SV × Option SV) (h : ∀ t b, (st t b).1 = b.1 + (if p t then 1 else 0)) : ∀ (l : List Nat) (b : Nat × Option SV × Option SV), (l.foldl (fun b t => st t b) b).1 = b.1 + (l.filter p).length
  | [], b => rfl
  | t :: l, b => by
    rw [List.foldl_cons, foldl_cnt p st h l, h, List.filter_cons]
    cases p t <;> simp <;> omega
theorem dicL_val {vals : Vals'} {S : List D} : vdicK dictL (.some ([valD vals], S)) = .some (.ownD (vals.map fun a => Sum.inr a.1) (vals.map fun a => D.int a.2), S) := rfl
theorem frz_val {vals : Vals'} {x : Str} {t : Int} : D.dic ((putD (kdOf (vals.map fun a => Sum.inr a.1) (vals.map fun a => D.int a.2)) (.inr x) (.int t)).map (·.1)) ((putD (kdOf (vals.map fun a => Sum.inr a.1) (vals.map fun a => D.int a.2)) (.inr x) (.int t)).map (·.2)) = valD (putV vals x t) := dicP_val vals x t
theorem lv_lso (N : Nat) (rows : Rows) (hN : N ≤ 1000000) (hR : (rows.map (·.1)).Nodup) : ∀ (f : Fm) (k : Nat) (ns : List Str) (vals : Vals') (v : Str → Int) (S : List D), f.depth + 2 ≤ k → f.Cl ns → Agr ns vals v → vals.length + f.depth ≤ 900 → G.run k "_law_so" [roomD N rows, f.toD, valD vals] S = .some (.bl (sat N rows f v), S)
  | f, k, ns, vals, v, S, hk, hc, ha, hl => by
    obtain ⟨k, rfl⟩ : ∃ j, k = j + 1 := ⟨k - 1, by omega⟩
    rw [run__law_so]
    unfold b__law_so
    have er : roomD N rows = .tup [.int N, .tup (rows.map rowD)] := rfl
    have e4 := o_rng hN
    have bnd : ∀ (x : Str) (g : Fm) (xs : List D) (wd : D), g.depth + 2 ≤ k → g.Cl (ns ++ [x]) → vals.length + g.depth + 1 ≤ 900 → atI xs ((xs.length : Nat) - 1 : Int) = some g.toD →
        ∃ a b, forL (.name 8) (s__law_so_7_b (G.run k)) (rangeD N) [.some (.sh (.tup [.int N, .tup (rows.map rowD)])), .some (.sh (.tup xs)), .some (.sh (valD vals)), .some (.sh wd), none, none, .some (.sh (.str x)), .some (.sh (.int 0)), none, none] S =
          .some (.nx, [.some (.sh (.tup [.int N, .tup (rows.map rowD)])), .some (.sh (.tup xs)), .some (.sh (valD vals)), .some (.sh wd), none, none, .some (.sh (.str x)), .some (.sh (.int ((cnt N fun (t : Nat) => sat N rows g (upV v x (t : Int)) : Nat) : Int))), a, b], S) := fun x g xs wd hg hgc hgl hx => by
      have := for_fold (t := .name 8) (B := s__law_so_7_b (G.run k)) (S := S) (fun (t : Nat) => D.int (t : Int))
        (fun (b : Nat × Option SV × Option SV) => [.some (.sh (.tup [.int N, .tup (rows.map rowD)])), .some (.sh (.tup xs)), .some (.sh (valD vals)), .some (.sh wd), none, none, .some (.sh (.str x)), .some (.sh (.int ((b.1 : Nat) : Int))), b.2.1, b.2.2])
        (fun b t => (b.1 + (if sat N rows g (upV v x ((t : Nat) : Int)) then 1 else 0), .some (.sh (.int (t : Int))), .some (.sh (valD (putV vals x (t : Int)))))) (List.range N) (0, none, none) (fun t ht b => by
          refine ⟨_, rfl, .inl ?_⟩
          have e1 := lv_lso N rows hN hR g k (ns ++ [x]) (putV vals x t) (upV v x t) S hg hgc (ha.up x t) (by have := putV_len vals x t; omega)
          have e3 : (vals.map fun a => (Sum.inr a.1 : Key)).length ≤ 1000 := by rw [List.length_map]; omega
          rw [er] at e1
          unfold s__law_so_7_b
          walk_at "ev"
          rw [dicL_val]
          walk_at "ev"
          rw [v_keyK2 e3]
          walk_at "ev"
          rw [hx]
          walk_at "ev"
          rw [frz_val, e1]
          walk_at "ev"
          cases sat N rows g (upV v x t)
          · walk_at "ev"
            simp
          · walk_at "ev"
            simp)
      obtain ⟨⟨c, a, b⟩, hcab⟩ : ∃ z, z = (List.range N).foldl (fun (b : Nat × Option SV × Option SV) t => (b.1 + (if sat N rows g (upV v x ((t : Nat) : Int)) then 1 else 0), .some (.sh (.int (t : Int))), .some (.sh (valD (putV vals x (t : Int)))))) (0, none, none) := ⟨_, rfl⟩
      rw [← hcab] at this
      have hcc := foldl_cnt (fun t => sat N rows g (upV v x ((t : Nat) : Int))) (fun t b => (b.1 + (if sat N rows g (upV v x ((t : Nat) : Int)) then 1 else 0), .some (.sh (.int (t : Int))), .some (.sh (valD (putV vals x (t : Int)))))) (fun _ _ => rfl) (List.range N) (0, none, none)
      rw [← hcab] at hcc
      have hcc : c = cnt N fun t => sat N rows g (upV v x ((t : Nat) : Int)) := by
        rw [show c = (c, a, b).1 from rfl, hcc]
        simp [cnt]
      subst hcc
      exact ⟨a, b, this⟩
    rw [er]
    cases f with
    | tru => unfold s__law_so_0 s__law_so_1; unfold Fm.toD; walk_at "ev"; rfl
    | is q x =>
      have e5 := lv_lthings k (by omega) S (n := N) hR q
      have e6 := v_valX (S := S) (ha x hc)
      rw [er] at e5
      unfold s__law_so_0 s__law_so_1 s__law_so_2; unfold Fm.toD; walk_at "ev"
      rw [e6]
      walk_at "ev"
      rw [e5]
      walk_at "ev"
      rw [in_ints]
      walk_at "ev"
      rfl
    | same x y =>
      have e5 := v_valX (S := S) (ha x hc.1)
      have e6 := v_valX (S := S) (ha y hc.2)
      unfold s__law_so_0 s__law_so_1 s__law_so_2 s__law_so_3; unfold Fm.toD; walk_at "ev"
      rw [e5]
      walk_at "ev"
      rw [e6]
      walk_at "ev"
      rfl
    | not g =>
      simp only [Fm.depth] at hk hl
      have e5 := lv_lso N rows hN hR g k ns vals v S (by omega) hc ha (by omega)
      rw [er] at e5
      unfold s__law_so_0 s__law_so_1 s__law_so_2 s__law_so_3 s__law_so_4; unfold Fm.toD; walk_at "evh"
      rfl
    | both g h =>
      simp only [Fm.depth] at hk hl
      have e5 := lv_lso N rows hN hR g k ns vals v S (by omega) hc.1 ha (by omega)
      have e6 := lv_lso N rows hN hR h k ns vals v S (by omega) hc.2 ha (by omega)
      rw [er] at e5 e6
      unfold s__law_so_0 s__law_so_1 s__law_so_2 s__law_so_3 s__law_so_4 s__law_so_5; unfold Fm.toD; walk_at "ev"
      rw [e5]
      walk_at "ev"
      rw [e6, show sat N rows (.both g h) v = (sat N rows g v && sat N rows h v) from rfl]
      cases sat N rows g v <;> walk_at "ev"
    | either g h =>
      simp only [Fm.depth] at hk hl
      have e5 := lv_lso N rows hN hR g k ns vals v S (by omega) hc.1 ha (by omega)
      have e6 := lv_lso N rows hN hR h k ns vals v S (by omega) hc.2 ha (by omega)
      rw [er] at e5 e6
      unfold s__law_so_0 s__law_so_1 s__law_so_2 s__law_so_3 s__law_so_4 s__law_so_5; unfold Fm.toD; walk_at "ev"
      rw [e5]
      walk_at "ev"
      rw [e6, show sat N rows (.either g h) v = (sat N rows g v || sat N rows h v) from rfl]
      cases sat N rows g v <;> walk_at "ev"
    | some x g =>
      simp only [Fm.depth] at hk hl
      obtain ⟨a, b, e5⟩ := bnd x g [.str "some", .str x, g.toD] (.str "some") (by omega) hc (by omega) rfl
      unfold s__law_so_0 s__law_so_1 s__law_so_2 s__law_so_3 s__law_so_4 s__law_so_5 s__law_so_6 s__law_so_7 s__law_so_8
      unfold Fm.toD; walk_at "ev"
      rw [v_iargK e4, v_forK, e5]
      walk_at "ev"
      rfl
    | each x g =>
      simp only [Fm.depth] at hk hl
      obtain ⟨a, b, e5⟩ := bnd x g [.str "each", .str x, g.toD] (.str "each") (by omega) hc (by omega) rfl
      unfold s__law_so_0 s__law_so_1 s__law_so_2 s__law_so_3 s__law_so_4 s__law_so_5 s__law_so_6 s__law_so_7 s__law_so_8
      unfold Fm.toD; walk_at "ev"
      rw [v_iargK e4, v_forK, e5]
      walk_at "ev"
      rfl
    | many m x g =>
      simp only [Fm.depth] at hk hl
      obtain ⟨a, b, e5⟩ := bnd x g [.str "many", .int m, .str x, g.toD] (.str "many") (by omega) hc (by omega) rfl
      unfold s__law_so_0 s__law_so_1 s__law_so_2 s__law_so_3 s__law_so_4 s__law_so_5 s__law_so_6 s__law_so_7 s__law_so_8
      unfold Fm.toD; walk_at "ev"
      rw [v_iargK e4, v_forK, e5]
      walk_at "ev"
      rfl
theorem lv_lholds (N : Nat) (rows : Rows) (hN : N ≤ 1000000) (hR : (rows.map (·.1)).Nodup) (f : Fm) (k : Nat) (S : List D) (hk : f.depth + 3 ≤ k) (hc : f.Cl []) (hl : f.depth ≤ 800) (v : Str → Int) : G.run k "_law_holds" [roomD N rows, f.toD] S = .some (.bl (sat N rows f v), S) := by
  obtain ⟨k, rfl⟩ : ∃ j, k = j + 1 := ⟨k - 1, by omega⟩
  have e1 := lv_lso N rows hN hR f k [] [] v S (by omega) hc (fun x hx => by cases hx) (by simpa using by omega)
  have e2 : valD [] = .dic [] [] := rfl
  rw [e2] at e1
  rw [run__law_holds]
  unfold b__law_holds s__law_holds_0
  walk_at "evh"
end Ip

set_option maxHeartbeats 4000000
namespace Ip
open PySem L2
local macro_rules | `(tactic| walk_at "ev") => `(tactic| simp -implicitDefEqProofs only [v_c, v_var, v_varK, v_bin, v_binK1, v_binK2, v_pairK, v_un, v_unK, v_app, v_appK, v_call, v_callK, v_nil, v_cons, v_consK1, v_consK2, v_tup, v_lst, v_lstK, v_disp, v_ix, v_ixK1, v_ixP, v_ixT, v_ixL, at0, at1, at2, at3, at4, v_bl, v_blK, v_tru, v_truK, v_truN, v_mnot, v_notK, v_mand, v_andT, v_andF, v_mor, v_orT, v_orF, v_yes, v_xand, v_xandT, v_xandF, v_xor, v_xorT, v_xorF, v_xnot, v_xnotK, v_xif, v_xifT, v_xifF, v_ch, v_chK1, v_chK2, v_chT, v_chF, v_chK4, v_sli, v_sliK1, v_sliK2, v_sliT, v_sliL, v_onone, v_osome, v_osoK, v_iof, v_iofT, v_iofL, v_iarg, v_snil, v_seq, v_seqN, v_seqR, v_seqB, v_seqC, v_sif, v_ifT, v_ifF, v_ret, v_retK, v_asg, v_asgN, v_asgT, v_put0, v_put1, v_bk, v_ct, v_pool, v_poolK1, v_poolK2, v_pool1, v_pool2, v_pool3, v_for, v_forK, v_for0, v_for1, v_putN, v_forK1, v_forN, v_forC, v_forB, v_forR, v_par3, v_par3K1, v_par3K2, v_par3K3, v_par, v_parK1, v_parK2, v_vsh, v_vshK, v_run, v_runR, v_runN, v_comp, v_put, v_putK, v_own, v_ownK, v_lapp, v_ladd, v_laddK1, v_laddK2, v_xo, v_xoK, v_sapp, v_sappK1, v_sappK2, v_sappK3, v_lenO, v_lenK1, v_frz, v_fold0, v_fold1, v_frzK, v_frzN, v_frozen1, v_frozen2, v_frozen3, v_mth, v_mthK1, v_mthK2, v_mulI, v_min, v_list1, v_list2, o_add, o_sub, o_mul, o_mod, o_div, o_lt, o_le, o_gt, o_ge, o_int, o_neg, o_lenL, o_lenT, o_eqI, o_eqS, o_eqB, o_neI, o_neS, o_neB, o_tupL, o_tupT, startE, ob_addL, ob_addT, ob_tupK, ob_dispK, v_star, v_starK1, v_starK2, v_starK3, v_starK3i, v_dict, v_dictK, v_pair0, v_pair1, v_pairK1, v_pairK2s, v_pairK3, v_fld, v_fldK, v_met, v_metK2, v_new, v_newK, v_rev, v_revT, v_revL, v_ext, v_extK1, v_extT, v_extL, ox_neI, ox_neS, ox_neB, ox_neNI, ox_neIN, atm2, atm3, atm4, at2c1, at3c1, at4c1, at3c2, at4c2, v_vdic, v_vdicD, v_key, v_keyK1, v_keyK2, v_keyK2i, str_inj, o_in1, o_in2, o_in3, String.reduceEq, v_listL, v_listT, Bool.or_true, Bool.true_or, Bool.or_false, Bool.false_or, Bool.and_true, Bool.true_and, Bool.and_false, Bool.false_and, wipeE, List.length_map, List.length_append, List.map_cons, List.map_nil, List.length_cons, List.length_nil, List.cons_append, List.nil_append, List.append_nil, List.getElem?_cons_zero, List.getElem?_cons_succ, List.set_cons_zero, List.set_cons_succ, List.replicate_succ, List.replicate_zero, Nat.reduceAdd, Nat.reduceSub, Nat.reduceLeDiff, Int.reduceNeg, Int.reducePow, Int.reduceLT, Int.reduceLE, Int.reduceNe, Int.reduceEq, Int.reduceAdd, nI, Int.reduceSub, Int.natAbs, ne_eq, not_false_eq_true, and_true, true_and, and_self, decide_true, decide_false, Nat.reduceLT, Nat.reduceEqDiff, reduceCtorEq, Bool.not_true, Bool.not_false, i_non_int, i_non_str, i_non_bool, i_non_tuple, i_non_list, n_non, nn_non, i_bl_int, i_bl_str, i_bl_bool, i_bl_tuple, i_bl_list, n_bl, nn_bl, i_int_int, i_int_str, i_int_bool, i_int_tuple, i_int_list, n_int, nn_int, i_str_int, i_str_str, i_str_bool, i_str_tuple, i_str_list, n_str, nn_str, i_tup_int, i_tup_str, i_tup_bool, i_tup_tuple, i_tup_list, n_tup, nn_tup, i_lst_int, i_lst_str, i_lst_bool, i_lst_tuple, i_lst_list, n_lst, nn_lst, i_dic_int, i_dic_str, i_dic_bool, i_dic_tuple, i_dic_list, n_dic, nn_dic])
local macro_rules | `(tactic| walk_at "evh") => `(tactic| simp -implicitDefEqProofs only [v_c, v_var, v_varK, v_bin, v_binK1, v_binK2, v_pairK, v_un, v_unK, v_app, v_appK, v_call, v_callK, v_nil, v_cons, v_consK1, v_consK2, v_tup, v_lst, v_lstK, v_disp, v_ix, v_ixK1, v_ixP, v_ixT, v_ixL, at0, at1, at2, at3, at4, v_bl, v_blK, v_tru, v_truK, v_truN, v_mnot, v_notK, v_mand, v_andT, v_andF, v_mor, v_orT, v_orF, v_yes, v_xand, v_xandT, v_xandF, v_xor, v_xorT, v_xorF, v_xnot, v_xnotK, v_xif, v_xifT, v_xifF, v_ch, v_chK1, v_chK2, v_chT, v_chF, v_chK4, v_sli, v_sliK1, v_sliK2, v_sliT, v_sliL, v_onone, v_osome, v_osoK, v_iof, v_iofT, v_iofL, v_iarg, v_snil, v_seq, v_seqN, v_seqR, v_seqB, v_seqC, v_sif, v_ifT, v_ifF, v_ret, v_retK, v_asg, v_asgN, v_asgT, v_put0, v_put1, v_bk, v_ct, v_pool, v_poolK1, v_poolK2, v_pool1, v_pool2, v_pool3, v_for, v_forK, v_for0, v_for1, v_putN, v_forK1, v_forN, v_forC, v_forB, v_forR, v_par3, v_par3K1, v_par3K2, v_par3K3, v_par, v_parK1, v_parK2, v_vsh, v_vshK, v_run, v_runR, v_runN, v_comp, v_put, v_putK, v_own, v_ownK, v_lapp, v_ladd, v_laddK1, v_laddK2, v_xo, v_xoK, v_sapp, v_sappK1, v_sappK2, v_sappK3, v_lenO, v_lenK1, v_frz, v_fold0, v_fold1, v_frzK, v_frzN, v_frozen1, v_frozen2, v_frozen3, v_mth, v_mthK1, v_mthK2, v_mulI, v_min, v_list1, v_list2, o_add, o_sub, o_mul, o_mod, o_div, o_lt, o_le, o_gt, o_ge, o_int, o_neg, o_lenL, o_lenT, o_eqI, o_eqS, o_eqB, o_neI, o_neS, o_neB, o_tupL, o_tupT, startE, ob_addL, ob_addT, ob_tupK, ob_dispK, v_star, v_starK1, v_starK2, v_starK3, v_starK3i, v_dict, v_dictK, v_pair0, v_pair1, v_pairK1, v_pairK2s, v_pairK3, v_fld, v_fldK, v_met, v_metK2, v_new, v_newK, v_rev, v_revT, v_revL, v_ext, v_extK1, v_extT, v_extL, ox_neI, ox_neS, ox_neB, ox_neNI, ox_neIN, atm2, atm3, atm4, at2c1, at3c1, at4c1, at3c2, at4c2, v_vdic, v_vdicD, v_key, v_keyK1, v_keyK2, v_keyK2i, str_inj, o_in1, o_in2, o_in3, String.reduceEq, v_listL, v_listT, Bool.or_true, Bool.true_or, Bool.or_false, Bool.false_or, Bool.and_true, Bool.true_and, Bool.and_false, Bool.false_and, wipeE, List.length_map, List.length_append, List.map_cons, List.map_nil, List.length_cons, List.length_nil, List.cons_append, List.nil_append, List.append_nil, List.getElem?_cons_zero, List.getElem?_cons_succ, List.set_cons_zero, List.set_cons_succ, List.replicate_succ, List.replicate_zero, Nat.reduceAdd, Nat.reduceSub, Nat.reduceLeDiff, Int.reduceNeg, Int.reducePow, Int.reduceLT, Int.reduceLE, Int.reduceNe, Int.reduceEq, Int.reduceAdd, nI, Int.reduceSub, Int.natAbs, ne_eq, not_false_eq_true, and_true, true_and, and_self, decide_true, decide_false, Nat.reduceLT, Nat.reduceEqDiff, reduceCtorEq, Bool.not_true, Bool.not_false, i_non_int, i_non_str, i_non_bool, i_non_tuple, i_non_list, n_non, nn_non, i_bl_int, i_bl_str, i_bl_bool, i_bl_tuple, i_bl_list, n_bl, nn_bl, i_int_int, i_int_str, i_int_bool, i_int_tuple, i_int_list, n_int, nn_int, i_str_int, i_str_str, i_str_bool, i_str_tuple, i_str_list, n_str, nn_str, i_tup_int, i_tup_str, i_tup_bool, i_tup_tuple, i_tup_list, n_tup, nn_tup, i_lst_int, i_lst_str, i_lst_bool, i_lst_tuple, i_lst_list, n_lst, nn_lst, i_dic_int, i_dic_str, i_dic_bool, i_dic_tuple, i_dic_list, n_dic, nn_dic, *])

/-! ### types -/
abbrev Ty := List Str
def strT (xs : Ty) : D := .tup (xs.map D.str)
abbrev strL := strsD
def WordOk (x : Str) : Prop := (PyData.str x).canLay0 = true
def TyOk' (t : Ty) : Prop := ∀ x ∈ t, WordOk x
def pyT (xs : Ty) : PyData := .tuple (xs.map PyData.str)
theorem toPys_str : ∀ xs : Ty, toPys (xs.map D.str) = some (xs.map PyData.str)
  | [] => rfl
  | x :: xs => by
    rw [List.map_cons, toPys, toPys_str xs]
    rfl
theorem toPy_strT (xs : Ty) : toPy (strT xs) = some (pyT xs) := by
  unfold strT
  rw [toPy, toPys_str]
  rfl
theorem toPys_strT : ∀ L : List Ty, toPys (L.map strT) = some (L.map pyT)
  | [] => rfl
  | t :: L => by
    rw [List.map_cons, toPys, toPys_strT L, toPy_strT]
    rfl
theorem lay_strs : ∀ {xs : Ty}, TyOk' xs → PyData.canLayAll0 (xs.map PyData.str) = true ∧ PyData.depthAll (xs.map PyData.str) ≤ 1
  | [], _ => ⟨rfl, Nat.zero_le _⟩
  | x :: xs, h => by
    obtain ⟨h1, h2⟩ := lay_strs (xs := xs) fun y hy => h y (List.mem_cons_of_mem _ hy)
    have h3 : (PyData.str x).canLay0 = true := h x List.mem_cons_self
    constructor
    · rw [List.map_cons, PyData.canLayAll0, h3, h1]
      rfl
    · rw [List.map_cons]
      show max (PyData.str x).depth (PyData.depthAll (xs.map PyData.str)) ≤ 1
      exact Nat.max_le.mpr ⟨by simp [PyData.depth], h2⟩
theorem lay_T {t : Ty} (h : TyOk' t) : (pyT t).canLay0 = true ∧ (pyT t).depth ≤ 2 := by
  obtain ⟨h1, h2⟩ := lay_strs h
  exact ⟨h1, by show PyData.depthAll _ + 1 ≤ 2; omega⟩
theorem lay_Ts : ∀ {L : List Ty}, (∀ t ∈ L, TyOk' t) → PyData.canLayAll0 (L.map pyT) = true ∧ PyData.depthAll (L.map pyT) ≤ 2
  | [], _ => ⟨rfl, Nat.zero_le _⟩
  | t :: L, h => by
    obtain ⟨h1, h2⟩ := lay_Ts (L := L) fun y hy => h y (List.mem_cons_of_mem _ hy)
    obtain ⟨h3, h4⟩ := lay_T (h t List.mem_cons_self)
    constructor
    · rw [List.map_cons, PyData.canLayAll0, h3, h1]
      rfl
    · exact Nat.max_le.mpr ⟨h4, h2⟩
theorem shaped_T {t : Ty} (h : TyOk' t) : SeqAt.shaped (pyT t) = true := by
  obtain ⟨h1, h2⟩ := lay_T h
  unfold SeqAt.shaped
  rw [h1, decide_eq_true (show (pyT t).depth ≤ 64 by omega)]
  rfl
theorem shaped_Ts {L : List Ty} (h : ∀ t ∈ L, TyOk' t) : SeqAt.shaped (.list (L.map pyT)) = true := by
  obtain ⟨h1, h2⟩ := lay_Ts h
  unfold SeqAt.shaped
  have e1 : (PyData.list (L.map pyT)).canLay0 = true := h1
  have e2 : (PyData.list (L.map pyT)).depth ≤ 64 := by show PyData.depthAll _ + 1 ≤ 64; omega
  rw [e1, decide_eq_true e2]
  rfl
theorem eqv_strs : ∀ (a b : Ty), PyData.eqvAll (a.map PyData.str) (b.map PyData.str) = decide (a = b)
  | [], [] => by simp [PyData.eqvAll]
  | [], b :: bs => by simp [PyData.eqvAll]
  | a :: as, [] => by simp [PyData.eqvAll]
  | a :: as, b :: bs => by
    rw [List.map_cons, List.map_cons, PyData.eqvAll, eqv_strs as bs, PyData.eqv]
    by_cases h : a = b
    · subst h
      simp
    · simp [h]
theorem eqv_T (a b : Ty) : PyData.eqv (pyT a) (pyT b) = decide (a = b) := by
  unfold pyT
  rw [PyData.eqv]
  exact eqv_strs a b
theorem eqD_T {a b : Ty} (ha : TyOk' a) (hb : TyOk' b) : eqD (strT a) (strT b) = some (.bl (decide (a = b))) := by
  have e : scalD (strT a) (strT b) = none := rfl
  unfold eqD eqB dataEq
  rw [e]
  simp only [toPy_strT, Option.bind_some, shaped_T ha, shaped_T hb, Bool.and_self, if_true, eqv_T, Option.map_some]
theorem count_T {L : List Ty} {t : Ty} (hL : ∀ u ∈ L, TyOk' u) (ht : TyOk' t) : mthD "count" (.lst (L.map strT)) [strT t] = some (.int (L.countP fun u => decide (u = t) : Nat)) := by
  have e : mthD "count" (.lst (L.map strT)) [strT t] = ((toPys (L.map strT)).bind fun as => (toPy (strT t)).bind fun a => if SeqAt.shaped (.list as) && SeqAt.shaped a then some (D.int (as.countP fun z => PyData.eqv z a : Nat)) else none) := by
    unfold mthD
    dsimp only
    exact if_pos rfl
  rw [e, toPys_strT, toPy_strT]
  simp only [Option.bind_some, shaped_Ts hL, shaped_T ht, Bool.and_self, if_true, List.countP_map]
  congr 3
  refine congrArg (fun f => List.countP f L) (funext fun u => ?_)
  exact eqv_T u t
/-! ### types in a room -/
def typeR (rows : Rows) (kinds : List Str) (t : Int) : Ty := kinds.filter fun x => decide (t ∈ thingsR rows x)
theorem type_body (R : RC) (S : List D) {n t : Int} {rows : Rows} {kinds : List Str} (hl : kinds.length ≤ 100) (hR : ∀ x ∈ kinds, R "things_of" [roomD n rows, .str x] S = some (intsT (thingsR rows x), S)) :
    runB 4 (b_type_in R) [roomD n rows, strL kinds, .int t] S = some (strT (typeR rows kinds t), S) := by
  have key : compL (.name 3) ((mBl (xBin inD (xVar 2) (xCall "things_of" (aCons (xVar 0) (aCons (xVar 3) aNil))))) R) ((xVar 3) R) (kinds.map D.str) [some (.sh (roomD n rows)), some (.sh (strL kinds)), some (.sh (.int t)), none] S =
      some ((typeR rows kinds t).map D.str, S) := by
    refine comp_filterT D.str D.str (fun x => decide (t ∈ thingsR rows x)) kinds fun x hx => ⟨_, rfl, ?_, fun _ => ?_⟩
    · walk_at "ev"
      rw [hR x hx]
      walk_at "ev"
      rw [in_ints]
      walk_at "ev"
    · walk_at "ev"
  unfold b_type_in s_type_in_0
  rw [show strL kinds = D.lst (kinds.map D.str) from rfl] at key ⊢
  walk_at "ev"
  rw [v_compK (by rfl) (by rw [List.length_map]; omega)]
  simp only [wipeE, List.set_cons_succ, List.set_cons_zero]
  rw [key]
  walk_at "ev"
  rfl
/-! ### censuses -/
def cutI (limit c : Int) : Int := if c < limit then c else limit
def toldR (rows : Rows) (kinds : List Str) (n : Nat) : List Ty := (List.range n).map fun (k : Nat) => typeR rows kinds (0 + (k : Int))
def censusL (types told : List Ty) (limit : Int) : List Int := types.map fun t => cutI limit (told.countP fun u => decide (u = t) : Nat)
theorem typeR_sub {rows : Rows} {kinds : List Str} {t : Int} (h : TyOk' kinds) : TyOk' (typeR rows kinds t) := fun x hx => h x (List.mem_filter.mp hx).1
theorem census_body (R : RC) (S : List D) {n : Nat} {limit : Int} {rows : Rows} {kinds : List Str} {types : List Ty} (hn : n ≤ 100) (hk : TyOk' kinds) (ht : ∀ t ∈ types, TyOk' t) (hl : types.length ≤ 100)
    (h1 : ∀ t, R "type_in" [roomD n rows, strL kinds, .int t] S = some (strT (typeR rows kinds t), S)) (h2 : R "types_of" [strL kinds] S = some (.lst (types.map strT), S)) :
    runB 6 (b_census_of R) [roomD n rows, strL kinds, .int limit] S = some (intsT (censusL types (toldR rows kinds n) limit), S) := by
  have k1 : compL (.name 4) (mYes R) ((xCall "type_in" (aCons (xVar 0) (aCons (xVar 1) (aCons (xVar 4) aNil)))) R) (irs 0 n) [some (.sh (roomD n rows)), some (.sh (strL kinds)), some (.sh (.int limit)), none, none, none] S = some ((toldR rows kinds n).map strT, S) := by
    unfold irs toldR
    rw [comp_mapT (fun (k : Nat) => D.int (0 + (k : Int))) (fun (k : Nat) => strT (typeR rows kinds (0 + (k : Int)))) (List.range n) fun k hk => ⟨_, rfl, rfl, ?_⟩]
    · rw [List.map_map]
      rfl
    · walk_at "ev"
      rw [h1]
  have k2 : compL (.name 5) (mYes R) ((xApp minD (aCons (xVar 2) (aCons (xMth "count" (xVar 3) (aCons (xVar 5) aNil)) aNil))) R) (types.map strT) [some (.sh (roomD n rows)), some (.sh (strL kinds)), some (.sh (.int limit)), some (.sh (.lst ((toldR rows kinds n).map strT))), none, none] S =
      some ((censusL types (toldR rows kinds n) limit).map D.int, S) := by
    unfold censusL
    rw [comp_mapT strT (fun t => D.int (cutI limit ((toldR rows kinds n).countP fun u => decide (u = t) : Nat))) types fun t htm => ⟨_, rfl, rfl, ?_⟩]
    · rw [List.map_map]
      rfl
    · walk_at "ev"
      rw [count_T (fun u hu => by
        obtain ⟨k, _, rfl⟩ := List.mem_map.mp hu
        exact typeR_sub hk) (ht t htm)]
      walk_at "ev"
      rfl
  unfold b_census_of s_census_of_0 s_census_of_1
  have er : roomD (n : Int) rows = D.tup [.int n, .tup (rows.map rowD)] := rfl
  rw [er] at k1 k2 h1 ⊢
  walk_at "ev"
  rw [v_iargK (rng_irs (by omega)), v_compK (by rfl) (by rw [irs_length]; omega)]
  simp only [wipeE, List.set_cons_succ, List.set_cons_zero]
  rw [k1]
  walk_at "ev"
  rw [h2]
  walk_at "ev"
  rw [v_compK (by rfl) (by rw [List.length_map]; omega)]
  simp only [wipeE, List.set_cons_succ, List.set_cons_zero]
  rw [k2]
  walk_at "ev"
  rfl
/-! ### rooms of a census -/
theorem compL2_mapT {α : Type} {t : Tg} {tt : En → List D → Option (Bool × List D)} {it1 : En → List D → Option (List D × List D)} {t1 : Tg} {tt1 : En → List D → Option (Bool × List D)} {f : En → List D → Option (D × List D)} {env : En} {S : List D} (T : α → D) (G : α → List D) : ∀ (l : List α),
    (∀ x ∈ l, ∃ env1 es, putT t (T x) env = some env1 ∧ tt env1 S = some (true, S) ∧ t1.slots.all (notOwn env1) = true ∧ it1 env1 S = some (es, S) ∧ compL t1 tt1 f es (wipeE env1 t1.slots) S = some (G x, S)) → compL2 t tt it1 t1 tt1 f (l.map T) env S = some ((l.map G).flatten, S)
  | [], _ => rfl
  | d :: ds, h => by
    obtain ⟨env1, es, h1, h2, h3, h4, h5⟩ := h d List.mem_cons_self
    have ih := compL2_mapT (t := t) (tt := tt) (it1 := it1) (t1 := t1) (tt1 := tt1) (f := f) (env := env) (S := S) T G ds fun d hd => h d (List.mem_cons_of_mem _ hd)
    simp only [List.map_cons, compL2, h1, h2, h3, h4, h5, ih, Option.bind_some, if_true, Option.map_some, List.flatten_cons]
def flatC (types : List Ty) (cs : List Nat) : List Ty := ((types.zip cs).map fun z => List.replicate z.2 z.1).flatten
def idxT (told : List Ty) (x : Str) : List Int := ((List.range told.length).filter fun k => decide (x ∈ told.getD k [])).map fun (k : Nat) => 0 + (k : Int)
def rowsT (told : List Ty) (kinds : List Str) : Rows := kinds.map fun x => (x, idxT told x)
theorem in_strs (x : Str) (t : Ty) : inD (.str x) (strT t) = some (.bl (decide (x ∈ t))) := by
  have hf : (t.map D.str).all flatD = true := List.all_eq_true.mpr fun d hd => by
    obtain ⟨i, _, rfl⟩ := List.mem_map.mp hd
    rfl
  have e : ((t.map D.str).any fun y => eqF y (.str x)) = decide (x ∈ t) := by
    rw [List.any_map]
    by_cases h : x ∈ t
    · rw [decide_eq_true h]
      exact List.any_eq_true.mpr ⟨x, h, by show (x == x) = true; simp⟩
    · rw [decide_eq_false h]
      refine List.any_eq_false.mpr fun y hy q => h ?_
      have q : (y == x) = true := q
      rw [beq_iff_eq] at q
      exact q ▸ hy
  show (if flatD (.str x) && (t.map D.str).all flatD then some ((t.map D.str).any fun y => eqF y (.str x)) else none).map D.bl = _
  rw [hf, e]
  rfl
theorem const_comp {R : RC} {env : En} {S : List D} {d : D} (n : Nat) {i j : Nat} (h : ∀ e : D, (xVar j) R (env.set i (some (.sh e))) S = some (d, S)) : compL (.name i) (mYes R) ((xVar j) R) (irs 0 n) env S = some (List.replicate n d, S) := by
  unfold irs
  rw [comp_mapT (fun (k : Nat) => D.int (0 + (k : Int))) (fun _ => d) (List.range n) fun k _ => ⟨_, rfl, rfl, h _⟩]
  rw [List.map_const', List.length_range]
theorem v_comp2 {it : IM} {t : Tg} {vs : List Nat} {tt : TM} {it1 : IM} {t1 : Tg} {tt1 : TM} {f : XM} {R : RC} {env : En} {S S1 S2 : List D} {ds es : List D} (h1 : (vs.all (notOwn env) && t.slots.all (fun i => decide (i ∈ vs)) && t1.slots.all (fun i => decide (i ∈ vs))) = true)
    (h2 : it R env S = some (ds, S1)) (h3 : compL2 t (tt R) (it1 R) t1 (tt1 R) (f R) ds (wipeE env vs) S1 = some (es, S2)) (hl : es.length ≤ 1000) : lComp2 it t vs tt it1 t1 tt1 f R env S = some (es, S2) := by
  unfold lComp2
  rw [if_pos h1, h2]
  simp only [Option.bind_some]
  rw [h3]
  simp only [Option.bind_some]
  rw [if_pos (sz1000 hl)]
theorem at_told {L : List Ty} {k : Nat} (h : k < L.length) : atI (L.map strT) (0 + (k : Int)) = some (strT (L.getD k [])) := by
  rw [at_len (by rw [List.length_map]; exact h), List.getElem_map, List.getD_eq_getElem?_getD, List.getElem?_eq_getElem h]
  rfl
/-- the rows of a room by its told types -/
theorem rows_comp {R : RC} {S : List D} {told : List Ty} {kinds : List Str} {env : En} {i o v : Nat} (hl : told.length ≤ 1000) (h : ∀ x ∈ kinds, ∀ d : D, ((xTup (aCons (xVar v) (aCons (xApp tupOf (aCons (xLst (lComp (iArg rng1 (aCons (xApp lenD (aCons (xVar o) aNil)) aNil)) (.name i) [i] (mBl (xBin inD (xVar v) (xIx (xVar o) (xVar i)))) (xVar i))) aNil)) aNil))) R) (env.set v (some (.sh (.str x)))) S = some (rowD (x, idxT told x), S)) :
    compL (.name v) (mYes R) ((xTup (aCons (xVar v) (aCons (xApp tupOf (aCons (xLst (lComp (iArg rng1 (aCons (xApp lenD (aCons (xVar o) aNil)) aNil)) (.name i) [i] (mBl (xBin inD (xVar v) (xIx (xVar o) (xVar i)))) (xVar i))) aNil)) aNil))) R) (kinds.map D.str) env S = some ((rowsT told kinds).map rowD, S) := by
  rw [comp_mapT D.str (fun x => rowD (x, idxT told x)) kinds fun x hx => ⟨_, rfl, rfl, h x hx .non⟩]
  unfold rowsT
  rw [List.map_map]
  rfl
theorem idx_comp {R : RC} {S : List D} {told : List Ty} {x : Str} {env : En} {i o v : Nat} (ho : ∀ d : D, (xVar o) R (env.set i (some (.sh d))) S = some (.lst (told.map strT), S)) (hv : ∀ d : D, (xVar v) R (env.set i (some (.sh d))) S = some (.str x, S)) (hi : ∀ d : D, (xVar i) R (env.set i (some (.sh d))) S = some (d, S)) :
    compL (.name i) ((mBl (xBin inD (xVar v) (xIx (xVar o) (xVar i)))) R) ((xVar i) R) (irs 0 told.length) env S = some ((idxT told x).map D.int, S) := by
  unfold irs idxT
  rw [comp_filterT (fun (k : Nat) => D.int (0 + (k : Int))) (fun k => D.int (0 + (k : Int))) (fun k => decide (x ∈ told.getD k [])) (List.range told.length) fun k hk => ⟨_, rfl, ?_, fun _ => hi _⟩]
  · rw [List.map_map]
    rfl
  · rw [v_bl, v_bin, hv, v_binK1, v_ix, ho, v_ixK1, hi, v_ixL, at_told (List.mem_range.mp hk), v_pairK, v_binK2, in_strs, v_pairK, v_blK]
theorem room_body (R : RC) (S : List D) {kinds : List Str} {types : List Ty} {cs : List Nat} (hkl : kinds.length ≤ 100) (hl : (flatC types cs).length ≤ 900) (hz : types.length ≤ 100) (hc : ∀ c ∈ cs, c ≤ 900) (h2 : R "types_of" [strL kinds] S = some (.lst (types.map strT), S)) :
    runB 10 (b_room_of R) [strL kinds, .tup (cs.map fun c => D.int (c : Nat))] S = some (roomD (flatC types cs).length (rowsT (flatC types cs) kinds), S) := by
  have ez : zipD [.lst (types.map strT), .tup (cs.map fun c => D.int (c : Nat))] = some ((types.zip cs).map fun z => D.tup [strT z.1, D.int (z.2 : Nat)]) := by
    show some (((types.map strT).zip (cs.map fun c => D.int (c : Nat))).map fun z => D.tup [z.1, z.2]) = _
    rw [List.zip_map, List.map_map]
    rfl
  have k1 : compL2 (.tup [4, 5]) (mYes R) ((iArg rng1 (aCons (xVar 5) aNil)) R) (.name 6) (mYes R) ((xVar 4) R) ((types.zip cs).map fun z => D.tup [strT z.1, D.int (z.2 : Nat)]) [some (.sh (strL kinds)), some (.sh (.tup (cs.map fun c => D.int (c : Nat)))), some (.sh (.lst (types.map strT))), none, none, none, none, none, none, none] S =
      some ((flatC types cs).map strT, S) := by
    rw [compL2_mapT (fun z : Ty × Nat => D.tup [strT z.1, D.int (z.2 : Nat)]) (fun z : Ty × Nat => List.replicate z.2 (strT z.1)) (types.zip cs) fun z hz => ⟨_, irs 0 z.2, rfl, rfl, rfl, ?_, ?_⟩]
    · unfold flatC
      rw [List.map_flatten, List.map_map]
      have e : (fun z : Ty × Nat => List.replicate z.2 (strT z.1)) = (List.map strT ∘ fun z : Ty × Nat => List.replicate z.2 z.1) := funext fun z => by
        show _ = List.map strT (List.replicate z.2 z.1)
        rw [List.map_replicate]
      rw [e]
    · have hz2 := hc z.2 (List.of_mem_zip hz).2
      simp only [putAll]
      walk_at "ev"
      rw [v_iargK (rng_irs (by omega))]
    · simp only [putAll, Tg.slots, wipeE, List.set_cons_succ, List.set_cons_zero]
      exact const_comp z.2 fun e => rfl
  have hrow : ∀ x ∈ kinds, ∀ d : D, ((xTup (aCons (xVar 9) (aCons (xApp tupOf (aCons (xLst (lComp (iArg rng1 (aCons (xApp lenD (aCons (xVar 3) aNil)) aNil)) (.name 8) [8] (mBl (xBin inD (xVar 9) (xIx (xVar 3) (xVar 8)))) (xVar 8))) aNil)) aNil))) R)
      (([some (.sh (strL kinds)), some (.sh (.tup (cs.map fun c => D.int (c : Nat)))), some (.sh (.lst (types.map strT))), some (.sh (.lst ((flatC types cs).map strT))), none, none, none, none, none, none] : En).set 9 (some (.sh (.str x)))) S = some (rowD (x, idxT (flatC types cs) x), S) := fun x _ _ => by
    walk_at "ev"
    rw [v_iargK (rng_irs (by omega)), v_compK (by rfl) (by rw [irs_length]; omega)]
    simp only [wipeE, List.set_cons_succ, List.set_cons_zero]
    rw [idx_comp (fun _ => rfl) (fun _ => rfl) (fun _ => rfl)]
    walk_at "ev"
    rfl
  unfold b_room_of s_room_of_0 s_room_of_1 s_room_of_2 s_room_of_3
  walk_at "ev"
  rw [h2]
  walk_at "ev"
  rw [v_comp2 (by rfl) (by walk_at "ev"; rw [v_iargK ez]) k1 (by rw [List.length_map]; omega)]
  walk_at "ev"
  rw [show strL kinds = D.lst (kinds.map D.str) from rfl] at hrow ⊢
  walk_at "ev"
  rw [v_compK (by rfl) (by rw [List.length_map]; omega)]
  simp only [wipeE, List.set_cons_succ, List.set_cons_zero]
  rw [rows_comp (by omega) hrow]
  walk_at "ev"
  try simp only [List.length_map]
  rfl
/-! ### _law_census_room -/
theorem mul_rep (t : Ty) {c : Nat} (h : c ≤ 900) : mulX (.lst [strT t]) (.int (c : Int)) = some (.lst (List.replicate c (strT t))) := by
  have e : (List.replicate c [strT t]).flatten = List.replicate c (strT t) := by
    induction c with
    | zero => rfl
    | succ c ih =>
      rw [List.replicate_succ, List.flatten_cons, ih (by omega)]
      rfl
  have h1 : -(2 ^ 62) ≤ (c : Int) := Int.le_trans (by decide) (Int.natCast_nonneg c)
  have h2 : (c : Int) < 2 ^ 62 := Int.lt_of_le_of_lt (Int.ofNat_le.mpr h) (by decide)
  have h3 : [strT t].length * (c : Int).toNat ≤ sizeLine := sz1000 (by simp; omega)
  unfold mulX
  dsimp only
  rw [if_pos ⟨h1, h2, h3⟩, Int.toNat_natCast, e]
theorem flatC_snoc (types : List Ty) (cs : List Nat) {k : Nat} (h1 : k < types.length) (h2 : k < cs.length) : flatC (types.take (k + 1)) (cs.take (k + 1)) = flatC (types.take k) (cs.take k) ++ List.replicate cs[k] types[k] := by
  unfold flatC
  rw [List.take_succ, List.take_succ, List.getElem?_eq_getElem h1, List.getElem?_eq_getElem h2]
  rw [List.zip_append (by rw [List.length_take, List.length_take]; omega)]
  simp
theorem flatC_len (types : List Ty) (cs : List Nat) : ∀ k, (flatC (types.take k) (cs.take k)).length ≤ (flatC types cs).length := fun k => by
  have e : ∀ (z : List (Ty × Nat)) (k : Nat), (((z.take k).map fun z => List.replicate z.2 z.1).flatten).length ≤ ((z.map fun z => List.replicate z.2 z.1).flatten).length := fun z k => by
    have q : z = z.take k ++ z.drop k := (List.take_append_drop k z).symm
    have l : ((z.map fun z => List.replicate z.2 z.1).flatten).length = (((z.take k).map fun z => List.replicate z.2 z.1).flatten).length + (((z.drop k).map fun z => List.replicate z.2 z.1).flatten).length := by
      rw [← List.length_append, ← List.flatten_append, ← List.map_append, ← q]
    omega
  have q := e (types.zip cs) k
  unfold flatC
  have ez : (types.zip cs).take k = (types.take k).zip (cs.take k) := by
    rw [List.zip, List.take_zipWith]
  rw [ez] at q
  exact q
theorem lroom_loop (R : RC) (S : List D) (kD : D) {types : List Ty} {cs : List Nat} (he : cs.length = types.length) (hl : (flatC types cs).length ≤ 900) (hc : ∀ c ∈ cs, c ≤ 900) : ∀ (m k : Nat), k + m = types.length → ∀ x4 : Option SV,
    ∃ y4, forL (.name 4) (s__law_census_room_1_b R) ((List.range' k m).map fun (i : Nat) => D.int (0 + (i : Int))) [some (.sh kD), some (.sh (.tup (cs.map fun c => D.int (c : Nat)))), some (.sh (.lst (types.map strT))), some (.sh (.lst ((flatC (types.take k) (cs.take k)).map strT))), x4, none, none, none] S =
      some (.nx, [some (.sh kD), some (.sh (.tup (cs.map fun c => D.int (c : Nat)))), some (.sh (.lst (types.map strT))), some (.sh (.lst ((flatC types cs).map strT))), y4, none, none, none], S)
  | 0, k, h, x4 => by
    have e1 : types.take k = types := List.take_of_length_le (by omega)
    have e2 : cs.take k = cs := List.take_of_length_le (by omega)
    rw [e1, e2]
    exact ⟨x4, rfl⟩
  | m + 1, k, h, x4 => by
    have hk : k < types.length := by omega
    have hk2 : k < cs.length := by omega
    obtain ⟨y4, ih⟩ := lroom_loop R S kD he hl hc m (k + 1) (by omega) (some (.sh (.int (0 + (k : Int)))))
    refine ⟨y4, ?_⟩
    rw [List.range'_succ, List.map_cons]
    have a1 := at_told hk
    have a2 : atI (cs.map fun c => D.int (c : Nat)) (0 + (k : Int)) = some (.int (cs[k] : Nat)) := by
      rw [at_len (by rw [List.length_map]; exact hk2), List.getElem_map]
    have a3 := mul_rep (types.getD k []) (hc cs[k] (List.getElem_mem hk2))
    have a4 : types.getD k [] = types[k] := by rw [List.getD_eq_getElem?_getD, List.getElem?_eq_getElem hk]; rfl
    have a5 : addD (.lst ((flatC (types.take k) (cs.take k)).map strT)) (.lst (List.replicate cs[k] (strT (types.getD k [])))) = some (.lst ((flatC (types.take (k + 1)) (cs.take (k + 1))).map strT)) := by
      have hlen := flatC_len types cs (k + 1)
      rw [flatC_snoc types cs hk hk2] at hlen ⊢
      rw [List.map_append, List.map_replicate, a4]
      refine if_pos ?_
      rw [List.length_append, List.length_replicate] at hlen
      rw [List.length_map, List.length_replicate]
      exact sz1000 (by omega)
    have hb : s__law_census_room_1_b R [some (.sh kD), some (.sh (.tup (cs.map fun c => D.int (c : Nat)))), some (.sh (.lst (types.map strT))), some (.sh (.lst ((flatC (types.take k) (cs.take k)).map strT))), some (.sh (.int (0 + (k : Int)))), none, none, none] S =
        some (.nx, [some (.sh kD), some (.sh (.tup (cs.map fun c => D.int (c : Nat)))), some (.sh (.lst (types.map strT))), some (.sh (.lst ((flatC (types.take (k + 1)) (cs.take (k + 1))).map strT))), some (.sh (.int (0 + (k : Int)))), none, none, none], S) := by
      unfold s__law_census_room_1_b
      walk_at "ev"
      rw [a1]
      walk_at "ev"
      rw [a2]
      walk_at "ev"
      rw [a3]
      walk_at "ev"
      rw [a5]
      walk_at "ev"
    walk_at "ev"
    rw [hb]
    walk_at "ev"
    exact ih
theorem lroom_body (R : RC) (S : List D) {kinds : List Str} {types : List Ty} {cs : List Nat} (hkl : kinds.length ≤ 100) (he : cs.length = types.length) (hl : (flatC types cs).length ≤ 900) (hz : types.length ≤ 100) (hc : ∀ c ∈ cs, c ≤ 900) (h2 : R "_law_types" [strL kinds] S = some (.lst (types.map strT), S)) :
    runB 8 (b__law_census_room R) [strL kinds, .tup (cs.map fun c => D.int (c : Nat))] S = some (roomD (flatC types cs).length (rowsT (flatC types cs) kinds), S) := by
  obtain ⟨y4, hloop⟩ := lroom_loop R S (strL kinds) he hl hc types.length 0 (by omega) none
  have hrow : ∀ x ∈ kinds, ∀ d : D, ((xTup (aCons (xVar 7) (aCons (xApp tupOf (aCons (xLst (lComp (iArg rng1 (aCons (xApp lenD (aCons (xVar 3) aNil)) aNil)) (.name 6) [6] (mBl (xBin inD (xVar 7) (xIx (xVar 3) (xVar 6)))) (xVar 6))) aNil)) aNil))) R)
      (([some (.sh (strL kinds)), some (.sh (.tup (cs.map fun c => D.int (c : Nat)))), some (.sh (.lst (types.map strT))), some (.sh (.lst ((flatC types cs).map strT))), y4, none, none, none] : En).set 7 (some (.sh (.str x)))) S = some (rowD (x, idxT (flatC types cs) x), S) := fun x _ _ => by
    walk_at "ev"
    rw [v_iargK (rng_irs (by omega)), v_compK (by rfl) (by rw [irs_length]; omega)]
    simp only [wipeE, List.set_cons_succ, List.set_cons_zero]
    rw [idx_comp (fun _ => rfl) (fun _ => rfl) (fun _ => rfl)]
    walk_at "ev"
    rfl
  unfold b__law_census_room s__law_census_room_0 s__law_census_room_1 s__law_census_room_2 s__law_census_room_3
  walk_at "ev"
  rw [h2]
  walk_at "ev"
  rw [v_iargK (rng_irs (by omega))]
  walk_at "ev"
  rw [show irs 0 types.length = (List.range' 0 types.length).map fun (i : Nat) => D.int (0 + (i : Int)) by unfold irs; rw [List.range_eq_range']]
  rw [show ([] : List D) = (flatC (types.take 0) (cs.take 0)).map strT from rfl, hloop]
  walk_at "ev"
  rw [show strL kinds = D.lst (kinds.map D.str) from rfl] at hrow ⊢
  walk_at "ev"
  rw [v_compK (by rfl) (by rw [List.length_map]; omega)]
  simp only [wipeE, List.set_cons_succ, List.set_cons_zero]
  rw [rows_comp (by omega) hrow]
  walk_at "ev"
  try simp only [List.length_map]
  rfl
end Ip

set_option maxHeartbeats 4000000
namespace Ip
open PySem L2
local macro_rules | `(tactic| walk_at "ev") => `(tactic| simp -implicitDefEqProofs only [v_c, v_var, v_varK, v_bin, v_binK1, v_binK2, v_pairK, v_un, v_unK, v_app, v_appK, v_call, v_callK, v_nil, v_cons, v_consK1, v_consK2, v_tup, v_lst, v_lstK, v_disp, v_ix, v_ixK1, v_ixP, v_ixT, v_ixL, at0, at1, at2, at3, at4, v_bl, v_blK, v_tru, v_truK, v_truN, v_mnot, v_notK, v_mand, v_andT, v_andF, v_mor, v_orT, v_orF, v_yes, v_xand, v_xandT, v_xandF, v_xor, v_xorT, v_xorF, v_xnot, v_xnotK, v_xif, v_xifT, v_xifF, v_ch, v_chK1, v_chK2, v_chT, v_chF, v_chK4, v_sli, v_sliK1, v_sliK2, v_sliT, v_sliL, v_onone, v_osome, v_osoK, v_iof, v_iofT, v_iofL, v_iarg, v_snil, v_seq, v_seqN, v_seqR, v_seqB, v_seqC, v_sif, v_ifT, v_ifF, v_ret, v_retK, v_asg, v_asgN, v_asgT, v_put0, v_put1, v_bk, v_ct, v_pool, v_poolK1, v_poolK2, v_pool1, v_pool2, v_pool3, v_for, v_forK, v_for0, v_for1, v_putN, v_forK1, v_forN, v_forC, v_forB, v_forR, v_par3, v_par3K1, v_par3K2, v_par3K3, v_par, v_parK1, v_parK2, v_vsh, v_vshK, v_run, v_runR, v_runN, v_comp, v_put, v_putK, v_own, v_ownK, v_lapp, v_ladd, v_laddK1, v_laddK2, v_xo, v_xoK, v_sapp, v_sappK1, v_sappK2, v_sappK3, v_lenO, v_lenK1, v_frz, v_fold0, v_fold1, v_frzK, v_frzN, v_frozen1, v_frozen2, v_frozen3, v_mth, v_mthK1, v_mthK2, v_mulI, v_min, v_list1, v_list2, o_add, o_sub, o_mul, o_mod, o_div, o_lt, o_le, o_gt, o_ge, o_int, o_neg, o_lenL, o_lenT, o_eqI, o_eqS, o_eqB, o_neI, o_neS, o_neB, o_tupL, o_tupT, startE, ob_addL, ob_addT, ob_tupK, ob_dispK, v_star, v_starK1, v_starK2, v_starK3, v_starK3i, v_dict, v_dictK, v_pair0, v_pair1, v_pairK1, v_pairK2s, v_pairK3, v_fld, v_fldK, v_met, v_metK2, v_new, v_newK, v_rev, v_revT, v_revL, v_ext, v_extK1, v_extT, v_extL, ox_neI, ox_neS, ox_neB, ox_neNI, ox_neIN, atm2, atm3, atm4, at2c1, at3c1, at4c1, at3c2, at4c2, v_vdic, v_vdicD, v_key, v_keyK1, v_keyK2, v_keyK2i, str_inj, o_in1, o_in2, o_in3, String.reduceEq, v_listL, v_listT, Bool.or_true, Bool.true_or, Bool.or_false, Bool.false_or, Bool.and_true, Bool.true_and, Bool.and_false, Bool.false_and, wipeE, List.length_map, List.length_append, List.map_cons, List.map_nil, List.length_cons, List.length_nil, List.cons_append, List.nil_append, List.append_nil, List.getElem?_cons_zero, List.getElem?_cons_succ, List.set_cons_zero, List.set_cons_succ, List.replicate_succ, List.replicate_zero, Nat.reduceAdd, Nat.reduceSub, Nat.reduceLeDiff, Int.reduceNeg, Int.reducePow, Int.reduceLT, Int.reduceLE, Int.reduceNe, Int.reduceEq, Int.reduceAdd, nI, Int.reduceSub, Int.natAbs, ne_eq, not_false_eq_true, and_true, true_and, and_self, decide_true, decide_false, Nat.reduceLT, Nat.reduceEqDiff, reduceCtorEq, Bool.not_true, Bool.not_false, i_non_int, i_non_str, i_non_bool, i_non_tuple, i_non_list, n_non, nn_non, i_bl_int, i_bl_str, i_bl_bool, i_bl_tuple, i_bl_list, n_bl, nn_bl, i_int_int, i_int_str, i_int_bool, i_int_tuple, i_int_list, n_int, nn_int, i_str_int, i_str_str, i_str_bool, i_str_tuple, i_str_list, n_str, nn_str, i_tup_int, i_tup_str, i_tup_bool, i_tup_tuple, i_tup_list, n_tup, nn_tup, i_lst_int, i_lst_str, i_lst_bool, i_lst_tuple, i_lst_list, n_lst, nn_lst, i_dic_int, i_dic_str, i_dic_bool, i_dic_tuple, i_dic_list, n_dic, nn_dic])
local macro_rules | `(tactic| walk_at "evh") => `(tactic| simp -implicitDefEqProofs only [v_c, v_var, v_varK, v_bin, v_binK1, v_binK2, v_pairK, v_un, v_unK, v_app, v_appK, v_call, v_callK, v_nil, v_cons, v_consK1, v_consK2, v_tup, v_lst, v_lstK, v_disp, v_ix, v_ixK1, v_ixP, v_ixT, v_ixL, at0, at1, at2, at3, at4, v_bl, v_blK, v_tru, v_truK, v_truN, v_mnot, v_notK, v_mand, v_andT, v_andF, v_mor, v_orT, v_orF, v_yes, v_xand, v_xandT, v_xandF, v_xor, v_xorT, v_xorF, v_xnot, v_xnotK, v_xif, v_xifT, v_xifF, v_ch, v_chK1, v_chK2, v_chT, v_chF, v_chK4, v_sli, v_sliK1, v_sliK2, v_sliT, v_sliL, v_onone, v_osome, v_osoK, v_iof, v_iofT, v_iofL, v_iarg, v_snil, v_seq, v_seqN, v_seqR, v_seqB, v_seqC, v_sif, v_ifT, v_ifF, v_ret, v_retK, v_asg, v_asgN, v_asgT, v_put0, v_put1, v_bk, v_ct, v_pool, v_poolK1, v_poolK2, v_pool1, v_pool2, v_pool3, v_for, v_forK, v_for0, v_for1, v_putN, v_forK1, v_forN, v_forC, v_forB, v_forR, v_par3, v_par3K1, v_par3K2, v_par3K3, v_par, v_parK1, v_parK2, v_vsh, v_vshK, v_run, v_runR, v_runN, v_comp, v_put, v_putK, v_own, v_ownK, v_lapp, v_ladd, v_laddK1, v_laddK2, v_xo, v_xoK, v_sapp, v_sappK1, v_sappK2, v_sappK3, v_lenO, v_lenK1, v_frz, v_fold0, v_fold1, v_frzK, v_frzN, v_frozen1, v_frozen2, v_frozen3, v_mth, v_mthK1, v_mthK2, v_mulI, v_min, v_list1, v_list2, o_add, o_sub, o_mul, o_mod, o_div, o_lt, o_le, o_gt, o_ge, o_int, o_neg, o_lenL, o_lenT, o_eqI, o_eqS, o_eqB, o_neI, o_neS, o_neB, o_tupL, o_tupT, startE, ob_addL, ob_addT, ob_tupK, ob_dispK, v_star, v_starK1, v_starK2, v_starK3, v_starK3i, v_dict, v_dictK, v_pair0, v_pair1, v_pairK1, v_pairK2s, v_pairK3, v_fld, v_fldK, v_met, v_metK2, v_new, v_newK, v_rev, v_revT, v_revL, v_ext, v_extK1, v_extT, v_extL, ox_neI, ox_neS, ox_neB, ox_neNI, ox_neIN, atm2, atm3, atm4, at2c1, at3c1, at4c1, at3c2, at4c2, v_vdic, v_vdicD, v_key, v_keyK1, v_keyK2, v_keyK2i, str_inj, o_in1, o_in2, o_in3, String.reduceEq, v_listL, v_listT, Bool.or_true, Bool.true_or, Bool.or_false, Bool.false_or, Bool.and_true, Bool.true_and, Bool.and_false, Bool.false_and, wipeE, List.length_map, List.length_append, List.map_cons, List.map_nil, List.length_cons, List.length_nil, List.cons_append, List.nil_append, List.append_nil, List.getElem?_cons_zero, List.getElem?_cons_succ, List.set_cons_zero, List.set_cons_succ, List.replicate_succ, List.replicate_zero, Nat.reduceAdd, Nat.reduceSub, Nat.reduceLeDiff, Int.reduceNeg, Int.reducePow, Int.reduceLT, Int.reduceLE, Int.reduceNe, Int.reduceEq, Int.reduceAdd, nI, Int.reduceSub, Int.natAbs, ne_eq, not_false_eq_true, and_true, true_and, and_self, decide_true, decide_false, Nat.reduceLT, Nat.reduceEqDiff, reduceCtorEq, Bool.not_true, Bool.not_false, i_non_int, i_non_str, i_non_bool, i_non_tuple, i_non_list, n_non, nn_non, i_bl_int, i_bl_str, i_bl_bool, i_bl_tuple, i_bl_list, n_bl, nn_bl, i_int_int, i_int_str, i_int_bool, i_int_tuple, i_int_list, n_int, nn_int, i_str_int, i_str_str, i_str_bool, i_str_tuple, i_str_list, n_str, nn_str, i_tup_int, i_tup_str, i_tup_bool, i_tup_tuple, i_tup_list, n_tup, nn_tup, i_lst_int, i_lst_str, i_lst_bool, i_lst_tuple, i_lst_list, n_lst, nn_lst, i_dic_int, i_dic_str, i_dic_bool, i_dic_tuple, i_dic_list, n_dic, nn_dic, *])

/-! ### drawn orders -/
theorem v_popAt {i : Nat} {f : XM} {R : RC} {env : En} {S S1 : List D} {xs : List D} {k : Nat} (h : env[i]? = some (some (.own xs))) (hf : f R env S = some (.int (k : Int), S1)) (hk : k < xs.length) (hb : k ≤ 1000) :
    xPopAt i f R env S = some (xs[k], env.set i (some (.own (xs.eraseIdx k))), S1) := by
  have e1 : seqIndex? (k : Int) xs.length = some k := by
    have q := seqIndex_of (Int.natCast_nonneg k) (show (k : Int) < (xs.length : Int) by omega)
    rw [q, Int.toNat_natCast]
  have b1 : -(2 ^ 63) ≤ (k : Int) := Int.le_trans (by decide) (Int.natCast_nonneg k)
  have b2 : (k : Int) < 2 ^ 63 := Int.lt_of_le_of_lt (Int.ofNat_le.mpr hb) (by decide)
  have e2 : xs[k]? = some xs[k] := List.getElem?_eq_getElem hk
  unfold xPopAt
  simp -implicitDefEqProofs only [h, hf, Option.bind_some, if_pos (And.intro b1 b2), e1, e2, Option.map_some]
theorem erase_map {α β : Type} (g : α → β) : ∀ (l : List α) (k : Nat), (l.map g).eraseIdx k = (l.eraseIdx k).map g
  | [], _ => rfl
  | _ :: _, 0 => rfl
  | x :: l, k + 1 => congrArg (fun z => g x :: z) (erase_map g l k)
theorem perm_erase {α : Type} : ∀ (l : List α) (k : Nat) (h : k < l.length), l.Perm (l[k] :: l.eraseIdx k)
  | x :: l, 0, _ => List.Perm.refl _
  | x :: l, k + 1, h => (List.Perm.cons x (perm_erase l k (by simpa using h))).trans (List.Perm.swap _ _ _)
theorem turn_loop (R : RC) (hd : DrawOk R) (x1 : Option SV) : ∀ (m : Nat) (ds : List D) (left found : List Int) (x4 : Option SV) (S : List D), ds.length = m → left.length = m → PV S → found.length + m ≤ 100 →
    ∃ (order : List Int) (S' : List D) (y4 : Option SV), PV S' ∧ order.Perm (found ++ left) ∧
      forL (.name 4) (s__law_turn_2_b R) ds [some (.sh .pool), x1, some (.own (left.map D.int)), some (.own (found.map D.int)), x4] S = some (.nx, [some (.sh .pool), x1, some (.own []), some (.own (order.map D.int)), y4], S')
  | 0, ds, left, found, x4, S, h1, h2, hS, _ => by
    have e1 : ds = [] := List.eq_nil_of_length_eq_zero h1
    have e2 : left = [] := List.eq_nil_of_length_eq_zero h2
    subst e1 e2
    exact ⟨found, S, x4, hS, by rw [List.append_nil], rfl⟩
  | m + 1, d :: ds, left, found, x4, S, h1, h2, hS, hl => by
    obtain ⟨v, S1, p1, v0, v1, e1⟩ := hd S (left.length : Int) hS (by omega) (by omega)
    obtain ⟨k, rfl⟩ : ∃ k : Nat, v = (k : Int) := ⟨v.toNat, by omega⟩
    have hk : k < left.length := by omega
    have hk' : k < (left.map D.int).length := by rw [List.length_map]; exact hk
    obtain ⟨order, S', y4, p2, pm, e2⟩ := turn_loop R hd x1 m ds (left.eraseIdx k) (found ++ [left[k]]) (some (.sh d)) S1 (by simpa using h1) (by rw [List.length_eraseIdx_of_lt hk]; omega) p1 (by simp; omega)
    have hb : s__law_turn_2_b R [some (.sh .pool), x1, some (.own (left.map D.int)), some (.own (found.map D.int)), some (.sh d)] S = some (.nx, [some (.sh .pool), x1, some (.own ((left.eraseIdx k).map D.int)), some (.own ((found ++ [left[k]]).map D.int)), some (.sh d)], S1) := by
      unfold s__law_turn_2_b
      walk_at "ev"
      rw [v_popAt (xs := left.map D.int) (k := k) (by rfl) (by walk_at "ev"; rw [e1]) hk' (by omega)]
      simp only [List.set_cons_succ, List.set_cons_zero, List.getElem_map, v_sappK2, List.getElem?_cons_succ, List.getElem?_cons_zero]
      rw [v_sappK3 (by rw [List.length_map]; omega)]
      walk_at "ev"
      rw [List.map_append, erase_map]
      rfl
    refine ⟨order, S', y4, p2, pm.trans ?_, ?_⟩
    · rw [List.append_assoc]
      exact List.Perm.append_left found (perm_erase left k hk).symm
    · walk_at "ev"
      rw [hb]
      walk_at "ev"
      exact e2
theorem turn_body (R : RC) (hd : DrawOk R) {S : List D} (hS : PV S) {n : Nat} (hn : n ≤ 100) :
    ∃ (order : List Int) (S' : List D), PV S' ∧ order.Perm ((List.range n).map fun (k : Nat) => 0 + (k : Int)) ∧ runB 5 (b__law_turn R) [.pool, .int (n : Nat)] S = some (intsT order, S') := by
  have er : irs 0 n = ((List.range n).map fun (k : Nat) => 0 + (k : Int)).map D.int := by
    unfold irs
    rw [List.map_map]
    rfl
  obtain ⟨order, S', y4, p, pm, e⟩ := turn_loop R hd (some (.sh (.int (n : Nat)))) n (irs 0 n) ((List.range n).map fun (k : Nat) => 0 + (k : Int)) [] none S (irs_length 0 n) (by rw [List.length_map, List.length_range]) hS (by simp; omega)
  refine ⟨order, S', p, by simpa using pm, ?_⟩
  have el : listX [.rng 0 (n : Int)] = some (irs 0 n) := by
    have b1 : -(2 ^ 62) ≤ (n : Int) := Int.le_trans (by decide) (Int.natCast_nonneg n)
    have b2 : (n : Int) < 2 ^ 62 := Int.lt_of_le_of_lt (Int.ofNat_le.mpr hn) (by decide)
    have q : listR [.rng 0 (n : Int)] = some (irs 0 ((n : Int) - 0).toNat) := by
      have b3 : ((n : Int) - 0).toNat ≤ 2 ^ 24 := by
        rw [show ((n : Int) - 0).toNat = n by omega]
        exact Nat.le_trans hn (by decide)
      have b0 : -(2 ^ 62) ≤ (0 : Int) := by decide
      have b0' : (0 : Int) < 2 ^ 62 := by decide
      simp -implicitDefEqProofs only [listR, if_pos (And.intro b0 (And.intro b0' (And.intro b1 (And.intro b2 b3))))]
    have e0 : ((n : Int) - 0).toNat = n := by omega
    rw [e0] at q
    unfold listX
    have z : listL [.rng 0 (n : Int)] = none := by rfl
    rw [z, q]
    rfl
  have ol : order.length ≤ 100 := by
    have := pm.length_eq
    simp at this
    omega
  unfold b__law_turn s__law_turn_0 s__law_turn_1 s__law_turn_2 s__law_turn_3
  walk_at "ev"
  rw [show rngD [.int (n : Int)] = some (.rng 0 (n : Int)) from rfl]
  walk_at "ev"
  rw [v_lappK el]
  walk_at "ev"
  rw [v_iargK (rng_irs (by omega))]
  walk_at "ev"
  rw [er] at e ⊢
  rw [show ([] : List D) = ([] : List Int).map D.int from rfl, e]
  walk_at "ev"
  rfl
/-! ### rooms renumbered -/
def sortI (xs : List Int) : List Int := xs.mergeSort fun a b => decide (a ≤ b)
theorem sortI_perm (xs : List Int) : (sortI xs).Perm xs := List.mergeSort_perm xs _
theorem sortI_sorted (xs : List Int) : (sortI xs).Pairwise (· ≤ ·) := by
  have q := List.pairwise_mergeSort (le := fun a b : Int => decide (a ≤ b)) (fun a b c h1 h2 => decide_eq_true (Int.le_trans (of_decide_eq_true h1) (of_decide_eq_true h2))) (fun a b => by
    rcases Int.le_total a b with h | h <;> simp [h]) xs
  exact q.imp fun h => of_decide_eq_true h
theorem toPys_int : ∀ xs : List Int, toPys (xs.map D.int) = some (xs.map PyData.int)
  | [] => rfl
  | x :: xs => by
    rw [List.map_cons, toPys, toPys_int xs]
    rfl
theorem sortD_ints (xs : List Int) : sortD [.lst (xs.map D.int)] = some (.lst ((sortI xs).map D.int)) := by
  have ok : sortOk (xs.map PyData.int) = true := by
    have e : (xs.map PyData.int).all isIntP = true := List.all_eq_true.mpr fun d hd => by
      obtain ⟨i, _, rfl⟩ := List.mem_map.mp hd
      rfl
    unfold sortOk
    rw [e]
    rfl
  have e2 : (sortP (xs.map PyData.int)).map ofPy = (sortI xs).map D.int := by
    rw [sortP_ints (sortI_perm xs) (sortI_sorted xs), List.map_map]
    rfl
  show ((toPys (xs.map D.int)).bind fun as => if sortOk as then some ((sortP as).map ofPy) else none).map D.lst = _
  rw [toPys_int]
  simp only [Option.bind_some, ok, if_true, Option.map_some, e2]
/-- the first place of a thing -/
def placeI (order : List Int) (t : Int) : Nat := order.findIdx fun z => decide (z = t)
theorem lay_ints : ∀ (xs : List Int), PyData.canLayAll0 (xs.map PyData.int) = true ∧ PyData.depthAll (xs.map PyData.int) = 0
  | [] => ⟨rfl, rfl⟩
  | x :: xs => by
    obtain ⟨h1, h2⟩ := lay_ints xs
    constructor
    · rw [List.map_cons, PyData.canLayAll0, h1]
      simp [PyData.canLay0]
    · rw [List.map_cons]
      show max (PyData.int x).depth (PyData.depthAll (xs.map PyData.int)) = 0
      rw [h2]
      simp [PyData.depth]
theorem index_ints {order : List Int} {t : Int} (h : t ∈ order) : mthD "index" (intsT order) [.int t] = some (.int (placeI order t : Nat)) := by
  have s1 : SeqAt.shaped (.list (order.map PyData.int)) = true := by
    obtain ⟨h1, h2⟩ := lay_ints order
    unfold SeqAt.shaped
    have e1 : (PyData.list (order.map PyData.int)).canLay0 = true := h1
    have e2 : (PyData.list (order.map PyData.int)).depth ≤ 64 := by show PyData.depthAll _ + 1 ≤ 64; omega
    rw [e1, decide_eq_true e2]
    rfl
  have s2 : SeqAt.shaped (.int t) = true := by rfl
  have e : mthD "index" (intsT order) [.int t] = ((toPys (order.map D.int)).bind fun as => (toPy (.int t)).bind fun a => if SeqAt.shaped (.list as) && SeqAt.shaped a then (as.findIdx? fun z => PyData.eqv z a).map fun (j : Nat) => D.int (j : Int) else none) := by
    unfold mthD intsT
    dsimp only
    exact if_pos rfl
  have e3 : toPy (.int t) = some (.int t) := rfl
  have ef : ((order.map PyData.int).findIdx? fun z => PyData.eqv z (.int t)) = some (placeI order t) := by
    rw [List.findIdx?_map]
    have eg : ((fun z => PyData.eqv z (.int t)) ∘ PyData.int) = fun z => decide (z = t) := funext fun z => by
      show PyData.eqv (.int z) (.int t) = _
      rw [PyData.eqv]
      by_cases q : z = t <;> simp [q]
    rw [eg, List.findIdx?_eq_some_of_exists ⟨t, h, by simp⟩]
    rfl
  rw [e, toPys_int, e3]
  simp only [Option.bind_some, s1, s2, Bool.and_self, if_true, ef, Option.map_some]
def renR (order : List Int) (rows : Rows) : Rows := rows.map fun r => (r.1, sortI (r.2.map fun t => (placeI order t : Int)))
theorem ren_body (R : RC) (S : List D) {n : Int} {rows : Rows} {order : List Int} (hl : rows.length ≤ 100) (hx : ∀ r ∈ rows, r.2.length ≤ 100 ∧ ∀ t ∈ r.2, t ∈ order) : runB 6 (b_renumbered R) [roomD n rows, intsT order] S = some (roomD n (renR order rows), S) := by
  have key : ∀ (f : XM), f = (xTup (aCons (xVar 4) (aCons (xApp tupOf (aCons (xApp sortD (aCons (xLst (lComp (iOf (xVar 5)) (.name 3) [3] (mYes) (xMth "index" (xVar 1) (aCons (xVar 3) aNil)))) aNil)) aNil)) aNil))) →
      compL (.tup [4, 5]) (mYes R) (f R) (rows.map rowD) [some (.sh (roomD n rows)), some (.sh (intsT order)), none, none, none, none] S = some ((renR order rows).map rowD, S) := fun f hf => by
    subst hf
    unfold renR
    rw [comp_mapT rowD (fun r => rowD (r.1, sortI (r.2.map fun t => (placeI order t : Int)))) rows fun r hr => ⟨_, rfl, rfl, ?_⟩]
    · rw [List.map_map]
      rfl
    · obtain ⟨h1, h2⟩ := hx r hr
      simp only [putAll]
      have k1 : compL (.name 3) (mYes R) ((xMth "index" (xVar 1) (aCons (xVar 3) aNil)) R) (r.2.map D.int) [some (.sh (roomD n rows)), some (.sh (intsT order)), none, none, some (.sh (.str r.1)), some (.sh (intsT r.2))] S = some ((r.2.map fun t => (placeI order t : Int)).map D.int, S) := by
        rw [comp_mapT D.int (fun t => D.int (placeI order t : Nat)) r.2 fun t ht => ⟨_, rfl, rfl, ?_⟩]
        · rw [List.map_map]
          rfl
        · walk_at "ev"
          rw [index_ints (h2 t ht)]
          walk_at "ev"
      unfold intsT at k1 ⊢
      walk_at "ev"
      rw [v_compK (by rfl) (by rw [List.length_map]; omega)]
      simp only [wipeE, List.set_cons_succ, List.set_cons_zero]
      rw [k1]
      walk_at "ev"
      rw [sortD_ints]
      walk_at "ev"
      rfl
  unfold b_renumbered s_renumbered_0 s_renumbered_1
  have k2 := key _ rfl
  have er : roomD n rows = D.tup [.int n, .tup (rows.map rowD)] := rfl
  rw [er] at k2 ⊢
  unfold intsT at k2 ⊢
  walk_at "ev"
  rw [v_compK (by rfl) (by rw [List.length_map]; omega)]
  simp only [wipeE, List.set_cons_succ, List.set_cons_zero]
  rw [k2]
  walk_at "ev"
  rfl
/-! ### plain: censuses of made rooms, of renumbered rooms -/
theorem look_rowsT {told : List Ty} {x : Str} : ∀ {kinds : List Str}, x ∈ kinds → lookR (rowsT told kinds) x = some (idxT told x)
  | [], h => by cases h
  | y :: ys, h => by
    show (if y = x then some (idxT told y) else lookR (rowsT told ys) x) = _
    by_cases e : y = x
    · rw [if_pos e, e]
    · rw [if_neg e]
      exact look_rowsT ((List.mem_cons.mp h).resolve_left fun q => e q.symm)
theorem mem_idxT {told : List Ty} {x : Str} {k : Nat} : (0 + (k : Int)) ∈ idxT told x ↔ k < told.length ∧ x ∈ told.getD k [] := by
  unfold idxT
  rw [List.mem_map]
  constructor
  · rintro ⟨j, hj, e⟩
    have e : j = k := by omega
    subst e
    obtain ⟨h1, h2⟩ := List.mem_filter.mp hj
    exact ⟨List.mem_range.mp h1, of_decide_eq_true h2⟩
  · rintro ⟨h1, h2⟩
    exact ⟨k, List.mem_filter.mpr ⟨List.mem_range.mpr h1, decide_eq_true h2⟩, rfl⟩
theorem typeR_made {told : List Ty} {kinds : List Str} (h : ∀ t ∈ told, kinds.filter (fun x => decide (x ∈ t)) = t) {k : Nat} (hk : k < told.length) : typeR (rowsT told kinds) kinds (0 + (k : Int)) = told.getD k [] := by
  have e : told.getD k [] = told[k] := by rw [List.getD_eq_getElem?_getD, List.getElem?_eq_getElem hk]; rfl
  have q := h told[k] (List.getElem_mem hk)
  unfold typeR
  rw [e]
  rw [← q]
  refine (List.filter_congr fun x hx => ?_).trans (by rw [q])
  unfold thingsR
  rw [look_rowsT hx]
  show decide ((0 + (k : Int)) ∈ idxT told x) = decide (x ∈ told[k])
  refine decide_eq_decide.mpr ?_
  rw [mem_idxT, e]
  exact ⟨fun z => z.2, fun z => ⟨hk, z⟩⟩
theorem toldR_made {told : List Ty} {kinds : List Str} (h : ∀ t ∈ told, kinds.filter (fun x => decide (x ∈ t)) = t) : toldR (rowsT told kinds) kinds told.length = told := by
  unfold toldR
  refine List.ext_getElem (by simp) fun k h1 h2 => ?_
  rw [List.getElem_map, List.getElem_range, typeR_made h h2, List.getD_eq_getElem?_getD, List.getElem?_eq_getElem h2]
  rfl
theorem flatC_mem {types : List Ty} {cs : List Nat} {t : Ty} (h : t ∈ flatC types cs) : t ∈ types := by
  unfold flatC at h
  obtain ⟨l, hl, ht⟩ := List.mem_flatten.mp h
  obtain ⟨z, hz, rfl⟩ := List.mem_map.mp hl
  rw [(List.mem_replicate.mp ht).2]
  exact (List.of_mem_zip hz).1
theorem count_flat : ∀ (types : List Ty) (cs : List Nat), types.Nodup → cs.length = types.length → (types.map fun t => (flatC types cs).countP fun u => decide (u = t)) = cs
  | [], [], _, _ => rfl
  | [], _ :: _, _, h => by simp at h
  | _ :: _, [], _, h => by simp at h
  | t :: ts, c :: cs, hn, hl => by
    obtain ⟨h1, h2⟩ := List.nodup_cons.mp hn
    have ih := count_flat ts cs h2 (by simpa using hl)
    have e : flatC (t :: ts) (c :: cs) = List.replicate c t ++ flatC ts cs := rfl
    rw [List.map_cons, e]
    congr 1
    · rw [List.countP_append, List.countP_replicate]
      have z : (flatC ts cs).countP (fun u => decide (u = t)) = 0 := List.countP_eq_zero.mpr fun u hu q => h1 (of_decide_eq_true q ▸ flatC_mem hu)
      rw [z]
      simp
    · conv => rhs; rw [← ih]
      refine List.map_congr_left fun u hu => ?_
      have hne : t ≠ u := fun q => h1 (q ▸ hu)
      rw [List.countP_append, List.countP_replicate]
      simp [hne]
/-- the census of a made room is what it was made of, cut -/
theorem census_made {types : List Ty} {cs : List Nat} {kinds : List Str} (hn : types.Nodup) (hl : cs.length = types.length) (h : ∀ t ∈ types, kinds.filter (fun x => decide (x ∈ t)) = t) (limit : Int) :
    censusL types (toldR (rowsT (flatC types cs) kinds) kinds (flatC types cs).length) limit = cs.map fun c => cutI limit (c : Nat) := by
  rw [toldR_made fun t ht => h t (flatC_mem ht)]
  unfold censusL
  have q := congrArg (List.map fun c : Nat => cutI limit (c : Nat)) (count_flat types cs hn hl)
  rw [List.map_map] at q
  exact q
/-! ### renumbered -/
def rngI (n : Nat) : List Int := (List.range n).map fun (k : Nat) => 0 + (k : Int)
theorem rngI_nodup (n : Nat) : (rngI n).Nodup := by
  unfold rngI
  exact List.Pairwise.map _ (fun a b h q => h (by omega)) List.nodup_range
theorem place_at {order : List Int} {s : Int} (h : s ∈ order) : ∃ hl : placeI order s < order.length, order[placeI order s] = s := by
  have hl : placeI order s < order.length := List.findIdx_lt_length_of_exists ⟨s, h, by simp⟩
  have q := List.findIdx_getElem (xs := order) (p := fun z => decide (z = s)) (w := hl)
  exact ⟨hl, of_decide_eq_true q⟩
theorem nodup_at {order : List Int} (hn : order.Nodup) {i j : Nat} (hi : i < order.length) (hj : j < order.length) (e : order[i] = order[j]) : i = j := by
  rcases Nat.lt_trichotomy i j with h | h | h
  · exact absurd e (List.pairwise_iff_getElem.mp hn i j hi hj h)
  · exact h
  · exact absurd e.symm (List.pairwise_iff_getElem.mp hn j i hj hi h)
theorem look_ren (order : List Int) : ∀ (rows : Rows) (x : Str), lookR (renR order rows) x = (lookR rows x).map fun ys => sortI (ys.map fun t => (placeI order t : Int))
  | [], _ => rfl
  | r :: rows, x => by
    show (if r.1 = x then some (sortI (r.2.map fun t => (placeI order t : Int))) else lookR (renR order rows) x) = (if r.1 = x then some r.2 else lookR rows x).map _
    by_cases e : r.1 = x
    · rw [if_pos e, if_pos e]
      rfl
    · rw [if_neg e, if_neg e]
      exact look_ren order rows x
theorem look_mem : ∀ {rows : Rows} {x : Str} {ys : List Int}, lookR rows x = some ys → ∃ r ∈ rows, r.2 = ys
  | [], _, _, h => by cases h
  | r :: rows, x, ys, h => by
    unfold lookR at h
    split at h
    · cases h
      exact ⟨r, List.mem_cons_self, rfl⟩
    · obtain ⟨r', h1, h2⟩ := look_mem h
      exact ⟨r', List.mem_cons_of_mem _ h1, h2⟩
theorem type_ren {order : List Int} {rows : Rows} {kinds : List Str} (hn : order.Nodup) (hx : ∀ r ∈ rows, ∀ t ∈ r.2, t ∈ order) {k : Nat} (hk : k < order.length) : typeR (renR order rows) kinds (0 + (k : Int)) = typeR rows kinds order[k] := by
  unfold typeR
  refine List.filter_congr fun x _ => decide_eq_decide.mpr ?_
  unfold thingsR
  rw [look_ren]
  cases hl : lookR rows x with
  | none => simp
  | some ys =>
    obtain ⟨r, hr, rfl⟩ := look_mem hl
    show (0 + (k : Int)) ∈ sortI _ ↔ order[k] ∈ r.2
    rw [(sortI_perm _).mem_iff, List.mem_map]
    constructor
    · rintro ⟨s, hs, e⟩
      obtain ⟨hl', e2⟩ := place_at (hx r hr s hs)
      have : placeI order s = k := by omega
      subst this
      rw [e2]
      exact hs
    · intro h
      obtain ⟨hl', e2⟩ := place_at (hx r hr _ h)
      refine ⟨order[k], h, ?_⟩
      rw [nodup_at hn hl' hk e2]
      omega
theorem told_ren {order : List Int} {rows : Rows} {kinds : List Str} {n : Nat} (hp : order.Perm (rngI n)) (hx : ∀ r ∈ rows, ∀ t ∈ r.2, t ∈ rngI n) : (toldR (renR order rows) kinds n).Perm (toldR rows kinds n) := by
  have hn : order.Nodup := hp.nodup_iff.mpr (rngI_nodup n)
  have hl : order.length = n := by
    have := hp.length_eq
    unfold rngI at this
    simpa using this
  have e1 : toldR (renR order rows) kinds n = order.map (typeR rows kinds) := by
    unfold toldR
    refine List.ext_getElem (by simp [hl]) fun k h1 h2 => ?_
    rw [List.getElem_map, List.getElem_range, List.getElem_map]
    exact type_ren hn (fun r hr t ht => hp.mem_iff.mpr (hx r hr t ht)) (by simpa using h2)
  have e2 : toldR rows kinds n = (rngI n).map (typeR rows kinds) := by
    unfold toldR rngI
    rw [List.map_map]
    rfl
  rw [e1, e2]
  exact hp.map _
theorem census_ren {order : List Int} {rows : Rows} {kinds : List Str} {types : List Ty} {n : Nat} (hp : order.Perm (rngI n)) (hx : ∀ r ∈ rows, ∀ t ∈ r.2, t ∈ rngI n) (limit : Int) : censusL types (toldR (renR order rows) kinds n) limit = censusL types (toldR rows kinds n) limit := by
  unfold censusL
  refine List.map_congr_left fun t _ => ?_
  rw [(told_ren hp hx).countP_eq]
end Ip

set_option maxHeartbeats 4000000
namespace Ip
open PySem L2
/-! ### the same census, the same truth -/
def Fm.On (kinds : List Str) : List Str → Fm → Prop
  | _, .tru => True
  | ns, .is k x => k ∈ kinds ∧ x ∈ ns
  | ns, .same x y => x ∈ ns ∧ y ∈ ns
  | ns, .not f => f.On kinds ns
  | ns, .both f g => f.On kinds ns ∧ g.On kinds ns
  | ns, .either f g => f.On kinds ns ∧ g.On kinds ns
  | ns, .some x f => f.On kinds (ns ++ [x])
  | ns, .each x f => f.On kinds (ns ++ [x])
  | ns, .many n x f => 0 ≤ n ∧ f.On kinds (ns ++ [x])
theorem Fm.Ok.on {kinds : List Str} : ∀ {f : Fm} {ns : List Str}, f.Ok kinds ns → f.On kinds ns
  | .tru, _, _ => trivial
  | .is _ _, _, h => h
  | .same _ _, _, h => h
  | .not f, _, h => Fm.Ok.on (f := f) h
  | .both f g, _, h => ⟨Fm.Ok.on (f := f) h.1, Fm.Ok.on (f := g) h.2⟩
  | .either f g, _, h => ⟨Fm.Ok.on (f := f) h.1, Fm.Ok.on (f := g) h.2⟩
  | .some _ f, _, h => Fm.Ok.on (f := f) h.2
  | .each _ f, _, h => Fm.Ok.on (f := f) h.2
  | .many _ _ f, _, h => ⟨h.1.1, Fm.Ok.on (f := f) h.2.2⟩
theorem Fm.On.cl {kinds : List Str} : ∀ {f : Fm} {ns : List Str}, f.On kinds ns → f.Cl ns
  | .tru, _, _ => trivial
  | .is _ _, _, h => h.2
  | .same _ _, _, h => h
  | .not f, _, h => Fm.On.cl (f := f) h
  | .both f g, _, h => ⟨Fm.On.cl (f := f) h.1, Fm.On.cl (f := g) h.2⟩
  | .either f g, _, h => ⟨Fm.On.cl (f := f) h.1, Fm.On.cl (f := g) h.2⟩
  | .some _ f, _, h => Fm.On.cl (f := f) h
  | .each _ f, _, h => Fm.On.cl (f := f) h
  | .many _ _ f, _, h => Fm.On.cl (f := f) h.2
/-- the free things of a type -/
def fr (N : Nat) (ty : Nat → Ty) (as : List Nat) (t : Ty) : Nat := ((List.range N).filter fun a => decide (ty a = t) && !decide (a ∈ as)).length
theorem filter_rm {p : Nat → Bool} {a : Nat} : ∀ {l : List Nat}, l.Nodup → a ∈ l → (l.filter fun x => p x && !decide (x = a)).length + (if p a then 1 else 0) = (l.filter p).length
  | x :: l, hn, hm => by
    obtain ⟨hx, hn⟩ := List.nodup_cons.mp hn
    rcases List.mem_cons.mp hm with rfl | hm
    · have e : l.filter (fun x => p x && !decide (x = a)) = l.filter p := List.filter_congr fun y hy => by
        have : ¬ y = a := fun q => hx (q ▸ hy)
        rw [decide_eq_false this, Bool.not_false, Bool.and_true]
      rw [List.filter_cons, List.filter_cons, e, decide_eq_true (rfl : a = a)]
      cases p a <;> simp
    · have ih := filter_rm (p := p) (l := l) hn hm
      have : ¬ x = a := fun q => hx (q ▸ hm)
      rw [List.filter_cons, List.filter_cons, decide_eq_false this, Bool.not_false, Bool.and_true]
      cases hp : p x <;> simp <;> omega
theorem fr_new {N : Nat} {ty : Nat → Ty} {as : List Nat} {a : Nat} (h1 : a < N) (h2 : a ∉ as) (t : Ty) : fr N ty (a :: as) t + (if ty a = t then 1 else 0) = fr N ty as t := by
  have := filter_rm (p := fun x => decide (ty x = t) && !decide (x ∈ as)) (a := a) List.nodup_range (List.mem_range.mpr h1)
  unfold fr
  rw [← this]
  have e : ∀ x, (decide (ty x = t) && !decide (x ∈ a :: as)) = (decide (ty x = t) && !decide (x ∈ as) && !decide (x = a)) := fun x => by
    rw [Bool.and_assoc]
    refine congrArg (fun z => decide (ty x = t) && z) ?_
    by_cases q1 : x = a <;> by_cases q2 : x ∈ as <;> simp [q1, q2]
  rw [List.filter_congr fun x _ => e x]
  refine congrArg (_ + ·) ?_
  by_cases q : ty a = t <;> simp [q, h2]
theorem fr_congr {N : Nat} {ty : Nat → Ty} {as bs : List Nat} (h : ∀ x, x ∈ as ↔ x ∈ bs) (t : Ty) : fr N ty as t = fr N ty bs t := by
  unfold fr
  rw [List.filter_congr fun x _ => by rw [decide_eq_decide.mpr (h x)]]
theorem fr_pos {N : Nat} {ty : Nat → Ty} {as : List Nat} {t : Ty} (h : 0 < fr N ty as t) : ∃ a, a < N ∧ ty a = t ∧ a ∉ as := by
  obtain ⟨a, ha⟩ := List.exists_mem_of_length_pos h
  have := List.mem_filter.mp ha
  simp only [Bool.and_eq_true, decide_eq_true_eq, Bool.not_eq_true', decide_eq_false_iff_not] at this
  exact ⟨a, List.mem_range.mp this.1, this.2⟩
structure EF (r N1 N2 : Nat) (ty1 ty2 : Nat → Ty) (P : List (Nat × Nat)) : Prop where
  lt : ∀ p ∈ P, p.1 < N1 ∧ p.2 < N2 ∧ ty1 p.1 = ty2 p.2
  inj : ∀ p ∈ P, ∀ q ∈ P, p.1 = q.1 ↔ p.2 = q.2
  free : ∀ t, min r (fr N1 ty1 (P.map (·.1)) t) = min r (fr N2 ty2 (P.map (·.2)) t)
theorem EF.symm {r N1 N2 : Nat} {ty1 ty2 : Nat → Ty} {P : List (Nat × Nat)} (h : EF r N1 N2 ty1 ty2 P) : EF r N2 N1 ty2 ty1 (P.map fun p => (p.2, p.1)) := by
  refine ⟨fun p hp => ?_, fun p hp q hq => ?_, fun t => ?_⟩
  · obtain ⟨q, hq, rfl⟩ := List.mem_map.mp hp
    have := h.lt q hq
    exact ⟨this.2.1, this.1, this.2.2.symm⟩
  · obtain ⟨p', hp', rfl⟩ := List.mem_map.mp hp
    obtain ⟨q', hq', rfl⟩ := List.mem_map.mp hq
    exact (h.inj p' hp' q' hq').symm
  · rw [List.map_map, List.map_map]
    exact (h.free t).symm
theorem EF.congr {r N1 N2 : Nat} {ty1 ty2 : Nat → Ty} {P Q : List (Nat × Nat)} (h : EF r N1 N2 ty1 ty2 P) (hm : ∀ p, p ∈ Q ↔ p ∈ P) : EF r N1 N2 ty1 ty2 Q := by
  refine ⟨fun p hp => h.lt p ((hm p).mp hp), fun p hp q hq => h.inj p ((hm p).mp hp) q ((hm q).mp hq), fun t => ?_⟩
  have e1 : fr N1 ty1 (Q.map (·.1)) t = fr N1 ty1 (P.map (·.1)) t := fr_congr (fun x => by simp only [List.mem_map, hm]) t
  have e2 : fr N2 ty2 (Q.map (·.2)) t = fr N2 ty2 (P.map (·.2)) t := fr_congr (fun x => by simp only [List.mem_map, hm]) t
  rw [e1, e2]
  exact h.free t
theorem EF.step {r N1 N2 : Nat} {ty1 ty2 : Nat → Ty} {P : List (Nat × Nat)} (h : EF (r + 1) N1 N2 ty1 ty2 P) {a : Nat} (ha : a < N1) : ∃ b, b < N2 ∧ EF r N1 N2 ty1 ty2 ((a, b) :: P) := by
  by_cases hm : ∃ p ∈ P, p.1 = a
  · obtain ⟨p, hp, rfl⟩ := hm
    have h0 := h.lt p hp
    refine ⟨p.2, h0.2.1, ?_⟩
    have h' : EF r N1 N2 ty1 ty2 P := ⟨h.lt, h.inj, fun t => by have := h.free t; omega⟩
    refine h'.congr fun q => ⟨fun hq => ?_, fun hq => List.mem_cons_of_mem _ hq⟩
    rcases List.mem_cons.mp hq with rfl | hq
    · exact hp
    · exact hq
  · have hf : a ∉ P.map (·.1) := fun q => by
      obtain ⟨p, hp, e⟩ := List.mem_map.mp q
      exact hm ⟨p, hp, e⟩
    have c1 := fr_new (ty := ty1) ha hf (ty1 a)
    rw [if_pos rfl] at c1
    have c2 := h.free (ty1 a)
    obtain ⟨b, hb, ht, hbn⟩ := fr_pos (N := N2) (ty := ty2) (as := P.map (·.2)) (t := ty1 a) (by omega)
    refine ⟨b, hb, ⟨fun p hp => ?_, fun p hp q hq => ?_, fun t => ?_⟩⟩
    · rcases List.mem_cons.mp hp with rfl | hp
      · exact ⟨ha, hb, ht.symm⟩
      · exact h.lt p hp
    · rcases List.mem_cons.mp hp with rfl | hp <;> rcases List.mem_cons.mp hq with rfl | hq
      · simp
      · exact ⟨fun e => absurd (List.mem_map.mpr ⟨q, hq, e.symm⟩) hf, fun e => absurd (List.mem_map.mpr ⟨q, hq, e.symm⟩) hbn⟩
      · exact ⟨fun e => absurd (List.mem_map.mpr ⟨p, hp, e⟩) hf, fun e => absurd (List.mem_map.mpr ⟨p, hp, e⟩) hbn⟩
      · exact h.inj p hp q hq
    · rw [List.map_cons, List.map_cons]
      have d1 := fr_new (ty := ty1) ha hf t
      have d2 := fr_new (ty := ty2) hb hbn t
      have d3 := h.free t
      rw [ht] at d2
      show min r (fr N1 ty1 (a :: P.map (·.1)) t) = min r (fr N2 ty2 (b :: P.map (·.2)) t)
      by_cases q : ty1 a = t
      · rw [if_pos q] at d1 d2; omega
      · rw [if_neg q] at d1 d2; omega
theorem EF.steps {r N1 N2 : Nat} {ty1 ty2 : Nat → Ty} : ∀ (as : List Nat) {P : List (Nat × Nat)}, EF (as.length + r) N1 N2 ty1 ty2 P → (∀ a ∈ as, a < N1) → ∃ bs : List Nat, bs.length = as.length ∧ (∀ b ∈ bs, b < N2) ∧ EF r N1 N2 ty1 ty2 (as.zip bs ++ P)
  | [], P, h, _ => ⟨[], rfl, fun _ h => (nomatch h), by simpa using h⟩
  | a :: as, P, h, ha => by
    rw [show (a :: as).length + r = as.length + r + 1 by simp; omega] at h
    obtain ⟨b, hb, h1⟩ := h.step (ha a List.mem_cons_self)
    obtain ⟨bs, l, hbs, h2⟩ := EF.steps as h1 fun x hx => ha x (List.mem_cons_of_mem _ hx)
    refine ⟨b :: bs, by simp [l], fun x hx => ?_, h2.congr fun p => ?_⟩
    · rcases List.mem_cons.mp hx with rfl | hx
      · exact hb
      · exact hbs x hx
    · simp only [List.zip_cons_cons, List.cons_append, List.mem_cons, List.mem_append]
      constructor
      · rintro (h | h | h)
        · exact .inr (.inl h)
        · exact .inl h
        · exact .inr (.inr h)
      · rintro (h | h | h)
        · exact .inr (.inl h)
        · exact .inl h
        · exact .inr (.inr h)
theorem nodup_len : ∀ {bs l : List Nat}, bs.Nodup → (∀ b ∈ bs, b ∈ l) → bs.length ≤ l.length
  | [], _, _, _ => Nat.zero_le _
  | b :: bs, l, hn, hs => by
    obtain ⟨h1, h2⟩ := List.nodup_cons.mp hn
    have hb := hs b List.mem_cons_self
    have := nodup_len (bs := bs) (l := l.erase b) h2 fun x hx => (List.mem_erase_of_ne (fun e => h1 (by rw [← e]; exact hx))).mpr (hs x (List.mem_cons_of_mem _ hx))
    rw [List.length_erase_of_mem hb] at this
    have := List.length_pos_of_mem hb
    simp only [List.length_cons]
    omega
/-- fewer marked -/
theorem EF.less {r N1 N2 : Nat} {ty1 ty2 : Nat → Ty} {P : List (Nat × Nat)} {a b : Nat} (h : EF r N1 N2 ty1 ty2 ((a, b) :: P)) : ∀ t, min r (fr N1 ty1 (P.map (·.1)) t) = min r (fr N2 ty2 (P.map (·.2)) t) := fun t => by
  have h0 := h.lt (a, b) List.mem_cons_self
  have hf := h.free t
  rw [List.map_cons, List.map_cons] at hf
  by_cases hm : a ∈ P.map (·.1)
  · obtain ⟨p, hp, e⟩ := List.mem_map.mp hm
    have hb : b ∈ P.map (·.2) := List.mem_map.mpr ⟨p, hp, (h.inj p (List.mem_cons_of_mem _ hp) (a, b) List.mem_cons_self).mp e⟩
    rw [fr_congr (as := a :: P.map (·.1)) (bs := P.map (·.1)) (fun x => ⟨fun q => by rcases List.mem_cons.mp q with rfl | q; exact hm; exact q, fun q => List.mem_cons_of_mem _ q⟩) t,
      fr_congr (as := b :: P.map (·.2)) (bs := P.map (·.2)) (fun x => ⟨fun q => by rcases List.mem_cons.mp q with rfl | q; exact hb; exact q, fun q => List.mem_cons_of_mem _ q⟩) t] at hf
    exact hf
  · have hb : b ∉ P.map (·.2) := fun q => by
      obtain ⟨p, hp, e⟩ := List.mem_map.mp q
      exact hm (List.mem_map.mpr ⟨p, hp, (h.inj p (List.mem_cons_of_mem _ hp) (a, b) List.mem_cons_self).mpr e⟩)
    have d1 := fr_new (ty := ty1) h0.1 hm t
    have d2 := fr_new (ty := ty2) h0.2.1 hb t
    have e := h0.2.2
    simp only at e
    rw [← e] at d2
    by_cases q : ty1 a = t
    · rw [if_pos q] at d1 d2; omega
    · rw [if_neg q] at d1 d2; omega
theorem EF.drop {r N1 N2 : Nat} {ty1 ty2 : Nat → Ty} {P : List (Nat × Nat)} {a b : Nat} (h : EF r N1 N2 ty1 ty2 ((a, b) :: P)) : EF r N1 N2 ty1 ty2 P :=
  ⟨fun p hp => h.lt p (List.mem_cons_of_mem _ hp), fun p hp q hq => h.inj p (List.mem_cons_of_mem _ hp) q (List.mem_cons_of_mem _ hq), h.less⟩
/-- m things there, m things here -/
theorem EF.cnt {r N1 N2 m : Nat} {ty1 ty2 : Nat → Ty} {P : List (Nat × Nat)} (h : EF (m + r) N1 N2 ty1 ty2 P) {p1 p2 : Nat → Bool} (hp : ∀ a b, EF r N1 N2 ty1 ty2 ((a, b) :: P) → p1 a = p2 b)
    (hc : m ≤ cnt N1 p1) : m ≤ cnt N2 p2 := by
  obtain ⟨as, hl, hs⟩ : ∃ as : List Nat, as.length = m ∧ as.Sublist ((List.range N1).filter p1) := ⟨((List.range N1).filter p1).take m, by rw [List.length_take]; unfold Ip.cnt at hc; omega, List.take_sublist _ _⟩
  have hm : ∀ a ∈ as, a < N1 ∧ p1 a = true := fun a ha => by
    have := List.mem_filter.mp (hs.subset ha)
    exact ⟨List.mem_range.mp this.1, this.2⟩
  have hn : as.Nodup := (List.Nodup.sublist List.filter_sublist List.nodup_range).sublist hs
  rw [← hl] at h
  obtain ⟨bs, l, hb, h2⟩ := EF.steps as h fun a ha => (hm a ha).1
  have at_ : ∀ i (h1 : i < as.length) (h3 : i < bs.length), (as[i], bs[i]) ∈ as.zip bs ++ P := fun i h1 h3 => by
    refine List.mem_append.mpr (.inl ?_)
    have hz : i < (as.zip bs).length := by rw [List.length_zip]; omega
    have : (as.zip bs)[i] = (as[i], bs[i]) := List.getElem_zip
    rw [← this]
    exact List.getElem_mem hz
  have hbn : bs.Nodup := List.pairwise_iff_getElem.mpr fun i j hi hj hij e => by
    have := (h2.inj _ (at_ i (by omega) hi) _ (at_ j (by omega) hj)).mpr e
    exact absurd this (List.pairwise_iff_getElem.mp hn i j (by omega) (by omega) hij)
  have := nodup_len (l := (List.range N2).filter p2) hbn fun b hbm => by
    obtain ⟨i, hi, rfl⟩ := List.getElem_of_mem hbm
    refine List.mem_filter.mpr ⟨List.mem_range.mpr (hb _ hbm), ?_⟩
    have hi' : i < as.length := by omega
    have e : EF r N1 N2 ty1 ty2 ((as[i], bs[i]) :: P) := by
      have key : ∀ (zs : List (Nat × Nat)) (x : Nat × Nat), x ∈ zs → EF r N1 N2 ty1 ty2 (zs ++ P) → EF r N1 N2 ty1 ty2 (x :: P) := fun zs => by
        induction zs with
        | nil => intro x hx; cases hx
        | cons z zs ih =>
          intro x hx h
          rcases List.mem_cons.mp hx with rfl | hx
          · clear hx
            revert h
            clear ih
            induction zs with
            | nil => exact fun h => h
            | cons z zs ih =>
              intro h
              refine ih ?_
              have : EF r N1 N2 ty1 ty2 ((z.1, z.2) :: (x :: zs ++ P)) := h.congr fun p => by
                simp only [List.cons_append, List.mem_cons]
                constructor
                · rintro (h | h | h)
                  · exact .inr (.inl h)
                  · exact .inl h
                  · exact .inr (.inr h)
                · rintro (h | h | h)
                  · exact .inr (.inl h)
                  · exact .inl h
                  · exact .inr (.inr h)
              exact this.drop
          · exact ih x hx (EF.drop (a := z.1) (b := z.2) h)
      exact key _ _ (by
        have hz : i < (as.zip bs).length := by rw [List.length_zip]; omega
        have : (as.zip bs)[i] = (as[i], bs[i]) := List.getElem_zip
        rw [← this]
        exact List.getElem_mem hz) h2
    have e' : True := by
      trivial
    /-
      refine ⟨fun p hp => ?_, fun p hp q hq => ?_, fun t => ?_⟩
      · rcases List.mem_cons.mp hp with rfl | hp
        · exact h2.lt _ (at_ i hi' hi)
        · exact h2.lt _ (List.mem_append.mpr (.inr hp))
      · have k : ∀ p, p ∈ (as[i], bs[i]) :: P → p ∈ as.zip bs ++ P := fun p hp => by
          rcases List.mem_cons.mp hp with rfl | hp
          · exact at_ i hi' hi
          · exact List.mem_append.mpr (.inr hp)
        exact h2.inj _ (k p hp) _ (k q hq)
    -/
    rw [← hp _ _ e]
    exact (hm _ (List.getElem_mem hi')).2
  unfold Ip.cnt
  omega
theorem EF.cnt_iff {r N1 N2 m : Nat} {ty1 ty2 : Nat → Ty} {P : List (Nat × Nat)} (h : EF (m + r) N1 N2 ty1 ty2 P) {p1 p2 : Nat → Bool} (hp : ∀ a b, EF r N1 N2 ty1 ty2 ((a, b) :: P) → p1 a = p2 b) :
    m ≤ Ip.cnt N1 p1 ↔ m ≤ Ip.cnt N2 p2 := by
  refine ⟨fun q => h.cnt hp q, fun q => h.symm.cnt (p1 := p2) (p2 := p1) (fun b a hh => ?_) q⟩
  have := hh.symm
  rw [List.map_cons, List.map_map] at this
  have e : P.map ((fun p : Nat × Nat => (p.2, p.1)) ∘ fun p : Nat × Nat => (p.2, p.1)) = P := by
    rw [show ((fun p : Nat × Nat => (p.2, p.1)) ∘ fun p : Nat × Nat => (p.2, p.1)) = id from rfl, List.map_id]
  rw [e] at this
  exact (hp a b this).symm
theorem filter_two {α : Type} (p : α → Bool) : ∀ l : List α, (l.filter p).length + (l.filter fun x => !p x).length = l.length
  | [] => rfl
  | x :: l => by
    have := filter_two p l
    rw [List.filter_cons, List.filter_cons]
    cases p x <;> simp <;> omega
theorem cnt_all {N : Nat} {p : Nat → Bool} : (Ip.cnt N p = N) ↔ ¬ 1 ≤ Ip.cnt N fun a => !p a := by
  have := filter_two p (List.range N)
  rw [List.length_range] at this
  unfold Ip.cnt
  omega
def tyA (kinds : List Str) (rows : Rows) (a : Nat) : Ty := typeR rows kinds (a : Int)
theorem in_type {kinds : List Str} {rows : Rows} {k : Str} (hk : k ∈ kinds) (t : Int) : t ∈ thingsR rows k ↔ k ∈ typeR rows kinds t := by
  unfold typeR
  rw [List.mem_filter, decide_eq_true_eq]
  exact ⟨fun h => ⟨hk, h⟩, fun h => h.2⟩
theorem ef_sat {kinds : List Str} {N1 N2 : Nat} {rows1 rows2 : Rows} : ∀ (f : Fm) (r : Nat) (ns : List Str) (P : List (Nat × Nat)) (v1 v2 : Str → Int), f.rank ≤ r → f.On kinds ns → EF r N1 N2 (tyA kinds rows1) (tyA kinds rows2) P →
    (∀ x ∈ ns, ∃ p ∈ P, v1 x = (p.1 : Int) ∧ v2 x = (p.2 : Int)) → sat N1 rows1 f v1 = sat N2 rows2 f v2 := fun f => by
  have up : ∀ (g : Fm) (r : Nat) (ns : List Str) (P : List (Nat × Nat)) (v1 v2 : Str → Int) (x : Str), (∀ (r : Nat) (ns : List Str) (P : List (Nat × Nat)) (v1 v2 : Str → Int), g.rank ≤ r → g.On kinds ns → EF r N1 N2 (tyA kinds rows1) (tyA kinds rows2) P →
    (∀ x ∈ ns, ∃ p ∈ P, v1 x = (p.1 : Int) ∧ v2 x = (p.2 : Int)) → sat N1 rows1 g v1 = sat N2 rows2 g v2) → g.rank ≤ r → g.On kinds (ns ++ [x]) → (∀ x ∈ ns, ∃ p ∈ P, v1 x = (p.1 : Int) ∧ v2 x = (p.2 : Int)) →
      ∀ a b, EF r N1 N2 (tyA kinds rows1) (tyA kinds rows2) ((a, b) :: P) → sat N1 rows1 g (upV v1 x (a : Int)) = sat N2 rows2 g (upV v2 x (b : Int)) := fun g r ns P v1 v2 x ih hr ho hv a b he => by
    refine ih r (ns ++ [x]) _ _ _ hr ho he fun y hy => ?_
    unfold upV
    by_cases e : x = y
    · exact ⟨(a, b), List.mem_cons_self, by rw [if_pos e], by rw [if_pos e]⟩
    · rcases List.mem_append.mp hy with hy | hy
      · obtain ⟨p, hp, q1, q2⟩ := hv y hy
        exact ⟨p, List.mem_cons_of_mem _ hp, by rw [if_neg e]; exact q1, by rw [if_neg e]; exact q2⟩
      · rw [List.mem_singleton] at hy
        exact absurd hy.symm e
  induction f with
  | tru => intro _ _ _ _ _ _ _ _ _; rfl
  | is k x =>
    intro r ns P v1 v2 _ ho he hv
    obtain ⟨p, hp, q1, q2⟩ := hv x ho.2
    have ht := (he.lt p hp).2.2
    show decide (v1 x ∈ thingsR rows1 k) = decide (v2 x ∈ thingsR rows2 k)
    refine decide_eq_decide.mpr ?_
    rw [in_type ho.1, in_type ho.1, q1, q2]
    unfold tyA at ht
    rw [ht]
  | same x y =>
    intro r ns P v1 v2 _ ho he hv
    obtain ⟨p, hp, q1, q2⟩ := hv x ho.1
    obtain ⟨q, hq, q3, q4⟩ := hv y ho.2
    show decide (v1 x = v1 y) = decide (v2 x = v2 y)
    refine decide_eq_decide.mpr ?_
    have := he.inj p hp q hq
    rw [q1, q2, q3, q4]
    omega
  | not f ih =>
    intro r ns P v1 v2 hr ho he hv
    simp only [Fm.rank] at hr
    show (!_) = !_
    rw [ih r ns P v1 v2 (by omega) ho he hv]
  | both f g ih1 ih2 =>
    intro r ns P v1 v2 hr ho he hv
    simp only [Fm.rank] at hr
    show (_ && _) = (_ && _)
    rw [ih1 r ns P v1 v2 (by omega) ho.1 he hv, ih2 r ns P v1 v2 (by omega) ho.2 he hv]
  | either f g ih1 ih2 =>
    intro r ns P v1 v2 hr ho he hv
    simp only [Fm.rank] at hr
    show (_ || _) = (_ || _)
    rw [ih1 r ns P v1 v2 (by omega) ho.1 he hv, ih2 r ns P v1 v2 (by omega) ho.2 he hv]
  | some x f ih =>
    intro r ns P v1 v2 hr ho he hv
    simp only [Fm.rank] at hr
    obtain ⟨r, rfl⟩ : ∃ q, r = 1 + q := ⟨r - 1, by omega⟩
    have := he.cnt_iff (p1 := fun t => sat N1 rows1 f (upV v1 x (t : Int))) (p2 := fun t => sat N2 rows2 f (upV v2 x (t : Int))) (up f r ns P v1 v2 x ih (by omega) ho hv)
    refine decide_eq_decide.mpr ?_
    omega
  | each x f ih =>
    intro r ns P v1 v2 hr ho he hv
    simp only [Fm.rank] at hr
    obtain ⟨r, rfl⟩ : ∃ q, r = 1 + q := ⟨r - 1, by omega⟩
    have := he.cnt_iff (p1 := fun t => !sat N1 rows1 f (upV v1 x (t : Int))) (p2 := fun t => !sat N2 rows2 f (upV v2 x (t : Int))) (fun a b hh => by rw [up f r ns P v1 v2 x ih (by omega) ho hv a b hh])
    have c1 := cnt_all (N := N1) (p := fun t => sat N1 rows1 f (upV v1 x (t : Int)))
    have c2 := cnt_all (N := N2) (p := fun t => sat N2 rows2 f (upV v2 x (t : Int)))
    refine decide_eq_decide.mpr ?_
    omega
  | many m x f ih =>
    intro r ns P v1 v2 hr ho he hv
    simp only [Fm.rank] at hr
    have hm := ho.1
    obtain ⟨r, rfl⟩ : ∃ q, r = m.toNat + q := ⟨r - m.toNat, by omega⟩
    have := he.cnt_iff (p1 := fun t => sat N1 rows1 f (upV v1 x (t : Int))) (p2 := fun t => sat N2 rows2 f (upV v2 x (t : Int))) (up f r ns P v1 v2 x ih (by omega) ho.2 hv)
    refine decide_eq_decide.mpr ?_
    omega
/-- how many things of a type -/
def tot (kinds : List Str) (rows : Rows) (N : Nat) (t : Ty) : Nat := (toldR rows kinds N).countP fun u => decide (u = t)
theorem tot_fr {kinds : List Str} {rows : Rows} {N : Nat} {t : Ty} : fr N (tyA kinds rows) [] t = tot kinds rows N t := by
  unfold fr tot toldR tyA
  rw [List.countP_map, List.countP_eq_length_filter]
  refine congrArg List.length (List.filter_congr fun a _ => ?_)
  show (decide (typeR rows kinds (a : Int) = t) && !decide (a ∈ [])) = decide (typeR rows kinds (0 + (a : Int)) = t)
  rw [Int.zero_add]
  simp
/-- the same census, the same truth -/
theorem census_sat {kinds : List Str} {N1 N2 : Nat} {rows1 rows2 : Rows} {f : Fm} {r : Nat} (hr : f.rank ≤ r) (ho : f.On kinds []) (h : ∀ t, min r (tot kinds rows1 N1 t) = min r (tot kinds rows2 N2 t)) (v1 v2 : Str → Int) : sat N1 rows1 f v1 = sat N2 rows2 f v2 :=
  ef_sat f r [] [] v1 v2 hr ho ⟨fun _ h => (nomatch h), fun _ h => (nomatch h), fun t => by rw [List.map_nil, List.map_nil, tot_fr, tot_fr]; exact h t⟩ fun _ h => (nomatch h)
end Ip

set_option maxHeartbeats 4000000
namespace Ip
open PySem L2
local macro_rules | `(tactic| walk_at "ev") => `(tactic| simp -implicitDefEqProofs only [v_c, v_var, v_varK, v_bin, v_binK1, v_binK2, v_pairK, v_un, v_unK, v_app, v_appK, v_call, v_callK, v_nil, v_cons, v_consK1, v_consK2, v_tup, v_lst, v_lstK, v_disp, v_ix, v_ixK1, v_ixP, v_ixT, v_ixL, at0, at1, at2, at3, at4, v_bl, v_blK, v_tru, v_truK, v_truN, v_mnot, v_notK, v_mand, v_andT, v_andF, v_mor, v_orT, v_orF, v_yes, v_xand, v_xandT, v_xandF, v_xor, v_xorT, v_xorF, v_xnot, v_xnotK, v_xif, v_xifT, v_xifF, v_ch, v_chK1, v_chK2, v_chT, v_chF, v_chK4, v_sli, v_sliK1, v_sliK2, v_sliT, v_sliL, v_onone, v_osome, v_osoK, v_iof, v_iofT, v_iofL, v_iarg, v_snil, v_seq, v_seqN, v_seqR, v_seqB, v_seqC, v_sif, v_ifT, v_ifF, v_ret, v_retK, v_asg, v_asgN, v_asgT, v_put0, v_put1, v_bk, v_ct, v_pool, v_poolK1, v_poolK2, v_pool1, v_pool2, v_pool3, v_for, v_forK, v_for0, v_for1, v_putN, v_forK1, v_forN, v_forC, v_forB, v_forR, v_par3, v_par3K1, v_par3K2, v_par3K3, v_par, v_parK1, v_parK2, v_vsh, v_vshK, v_run, v_runR, v_runN, v_comp, v_put, v_putK, v_own, v_ownK, v_lapp, v_ladd, v_laddK1, v_laddK2, v_xo, v_xoK, v_sapp, v_sappK1, v_sappK2, v_sappK3, v_lenO, v_lenK1, v_frz, v_fold0, v_fold1, v_frzK, v_frzN, v_frozen1, v_frozen2, v_frozen3, v_mth, v_mthK1, v_mthK2, v_mulI, v_min, v_list1, v_list2, o_add, o_sub, o_mul, o_mod, o_div, o_lt, o_le, o_gt, o_ge, o_int, o_neg, o_lenL, o_lenT, o_eqI, o_eqS, o_eqB, o_neI, o_neS, o_neB, o_tupL, o_tupT, startE, ob_addL, ob_addT, ob_tupK, ob_dispK, v_star, v_starK1, v_starK2, v_starK3, v_starK3i, v_dict, v_dictK, v_pair0, v_pair1, v_pairK1, v_pairK2s, v_pairK3, v_fld, v_fldK, v_met, v_metK2, v_new, v_newK, v_rev, v_revT, v_revL, v_ext, v_extK1, v_extT, v_extL, ox_neI, ox_neS, ox_neB, ox_neNI, ox_neIN, atm2, atm3, atm4, at2c1, at3c1, at4c1, at3c2, at4c2, v_vdic, v_vdicD, v_key, v_keyK1, v_keyK2, v_keyK2i, str_inj, o_in1, o_in2, o_in3, String.reduceEq, v_listL, v_listT, Bool.or_true, Bool.true_or, Bool.or_false, Bool.false_or, Bool.and_true, Bool.true_and, Bool.and_false, Bool.false_and, wipeE, List.length_map, List.length_append, List.map_cons, List.map_nil, List.length_cons, List.length_nil, List.cons_append, List.nil_append, List.append_nil, List.getElem?_cons_zero, List.getElem?_cons_succ, List.set_cons_zero, List.set_cons_succ, List.replicate_succ, List.replicate_zero, Nat.reduceAdd, Nat.reduceSub, Nat.reduceLeDiff, Int.reduceNeg, Int.reducePow, Int.reduceLT, Int.reduceLE, Int.reduceNe, Int.reduceEq, Int.reduceAdd, nI, Int.reduceSub, Int.natAbs, ne_eq, not_false_eq_true, and_true, true_and, and_self, decide_true, decide_false, Nat.reduceLT, Nat.reduceEqDiff, reduceCtorEq, Bool.not_true, Bool.not_false, i_non_int, i_non_str, i_non_bool, i_non_tuple, i_non_list, n_non, nn_non, i_bl_int, i_bl_str, i_bl_bool, i_bl_tuple, i_bl_list, n_bl, nn_bl, i_int_int, i_int_str, i_int_bool, i_int_tuple, i_int_list, n_int, nn_int, i_str_int, i_str_str, i_str_bool, i_str_tuple, i_str_list, n_str, nn_str, i_tup_int, i_tup_str, i_tup_bool, i_tup_tuple, i_tup_list, n_tup, nn_tup, i_lst_int, i_lst_str, i_lst_bool, i_lst_tuple, i_lst_list, n_lst, nn_lst, i_dic_int, i_dic_str, i_dic_bool, i_dic_tuple, i_dic_list, n_dic, nn_dic])
local macro_rules | `(tactic| walk_at "evh") => `(tactic| simp -implicitDefEqProofs only [v_c, v_var, v_varK, v_bin, v_binK1, v_binK2, v_pairK, v_un, v_unK, v_app, v_appK, v_call, v_callK, v_nil, v_cons, v_consK1, v_consK2, v_tup, v_lst, v_lstK, v_disp, v_ix, v_ixK1, v_ixP, v_ixT, v_ixL, at0, at1, at2, at3, at4, v_bl, v_blK, v_tru, v_truK, v_truN, v_mnot, v_notK, v_mand, v_andT, v_andF, v_mor, v_orT, v_orF, v_yes, v_xand, v_xandT, v_xandF, v_xor, v_xorT, v_xorF, v_xnot, v_xnotK, v_xif, v_xifT, v_xifF, v_ch, v_chK1, v_chK2, v_chT, v_chF, v_chK4, v_sli, v_sliK1, v_sliK2, v_sliT, v_sliL, v_onone, v_osome, v_osoK, v_iof, v_iofT, v_iofL, v_iarg, v_snil, v_seq, v_seqN, v_seqR, v_seqB, v_seqC, v_sif, v_ifT, v_ifF, v_ret, v_retK, v_asg, v_asgN, v_asgT, v_put0, v_put1, v_bk, v_ct, v_pool, v_poolK1, v_poolK2, v_pool1, v_pool2, v_pool3, v_for, v_forK, v_for0, v_for1, v_putN, v_forK1, v_forN, v_forC, v_forB, v_forR, v_par3, v_par3K1, v_par3K2, v_par3K3, v_par, v_parK1, v_parK2, v_vsh, v_vshK, v_run, v_runR, v_runN, v_comp, v_put, v_putK, v_own, v_ownK, v_lapp, v_ladd, v_laddK1, v_laddK2, v_xo, v_xoK, v_sapp, v_sappK1, v_sappK2, v_sappK3, v_lenO, v_lenK1, v_frz, v_fold0, v_fold1, v_frzK, v_frzN, v_frozen1, v_frozen2, v_frozen3, v_mth, v_mthK1, v_mthK2, v_mulI, v_min, v_list1, v_list2, o_add, o_sub, o_mul, o_mod, o_div, o_lt, o_le, o_gt, o_ge, o_int, o_neg, o_lenL, o_lenT, o_eqI, o_eqS, o_eqB, o_neI, o_neS, o_neB, o_tupL, o_tupT, startE, ob_addL, ob_addT, ob_tupK, ob_dispK, v_star, v_starK1, v_starK2, v_starK3, v_starK3i, v_dict, v_dictK, v_pair0, v_pair1, v_pairK1, v_pairK2s, v_pairK3, v_fld, v_fldK, v_met, v_metK2, v_new, v_newK, v_rev, v_revT, v_revL, v_ext, v_extK1, v_extT, v_extL, ox_neI, ox_neS, ox_neB, ox_neNI, ox_neIN, atm2, atm3, atm4, at2c1, at3c1, at4c1, at3c2, at4c2, v_vdic, v_vdicD, v_key, v_keyK1, v_keyK2, v_keyK2i, str_inj, o_in1, o_in2, o_in3, String.reduceEq, v_listL, v_listT, Bool.or_true, Bool.true_or, Bool.or_false, Bool.false_or, Bool.and_true, Bool.true_and, Bool.and_false, Bool.false_and, wipeE, List.length_map, List.length_append, List.map_cons, List.map_nil, List.length_cons, List.length_nil, List.cons_append, List.nil_append, List.append_nil, List.getElem?_cons_zero, List.getElem?_cons_succ, List.set_cons_zero, List.set_cons_succ, List.replicate_succ, List.replicate_zero, Nat.reduceAdd, Nat.reduceSub, Nat.reduceLeDiff, Int.reduceNeg, Int.reducePow, Int.reduceLT, Int.reduceLE, Int.reduceNe, Int.reduceEq, Int.reduceAdd, nI, Int.reduceSub, Int.natAbs, ne_eq, not_false_eq_true, and_true, true_and, and_self, decide_true, decide_false, Nat.reduceLT, Nat.reduceEqDiff, reduceCtorEq, Bool.not_true, Bool.not_false, i_non_int, i_non_str, i_non_bool, i_non_tuple, i_non_list, n_non, nn_non, i_bl_int, i_bl_str, i_bl_bool, i_bl_tuple, i_bl_list, n_bl, nn_bl, i_int_int, i_int_str, i_int_bool, i_int_tuple, i_int_list, n_int, nn_int, i_str_int, i_str_str, i_str_bool, i_str_tuple, i_str_list, n_str, nn_str, i_tup_int, i_tup_str, i_tup_bool, i_tup_tuple, i_tup_list, n_tup, nn_tup, i_lst_int, i_lst_str, i_lst_bool, i_lst_tuple, i_lst_list, n_lst, nn_lst, i_dic_int, i_dic_str, i_dic_bool, i_dic_tuple, i_dic_list, n_dic, nn_dic, *])

/-! ### tuples of numbers -/
theorem eqv_ints : ∀ (a b : List Int), PyData.eqvAll (a.map PyData.int) (b.map PyData.int) = decide (a = b)
  | [], [] => by simp [PyData.eqvAll]
  | [], b :: bs => by simp [PyData.eqvAll]
  | a :: as, [] => by simp [PyData.eqvAll]
  | a :: as, b :: bs => by
    rw [List.map_cons, List.map_cons, PyData.eqvAll, eqv_ints as bs, PyData.eqv]
    by_cases h : a = b
    · subst h
      simp
    · simp [h]
theorem toPy_ints (xs : List Int) : toPy (intsT xs) = some (.tuple (xs.map PyData.int)) := by
  show (toPys (xs.map D.int)).map PyData.tuple = _
  rw [toPys_int]
  rfl
theorem shaped_ints (xs : List Int) : SeqAt.shaped (.tuple (xs.map PyData.int)) = true := by
  obtain ⟨h1, h2⟩ := lay_ints xs
  unfold SeqAt.shaped
  have e1 : (PyData.tuple (xs.map PyData.int)).canLay0 = true := h1
  have e2 : (PyData.tuple (xs.map PyData.int)).depth ≤ 64 := by show PyData.depthAll _ + 1 ≤ 64; omega
  rw [e1, decide_eq_true e2]
  rfl
theorem eqB_ints (a b : List Int) : eqB (intsT a) (intsT b) = some (decide (a = b)) := by
  have e : scalD (intsT a) (intsT b) = none := rfl
  unfold eqB dataEq
  rw [e]
  simp only [toPy_ints, Option.bind_some, shaped_ints, Bool.and_self, if_true, PyData.eqv, eqv_ints]
theorem eqD_ints (a b : List Int) : eqD (intsT a) (intsT b) = some (.bl (decide (a = b))) := by
  unfold eqD
  rw [eqB_ints]
  rfl
theorem neX_ints (a b : List Int) : neX (intsT a) (intsT b) = some (.bl (!decide (a = b))) := by
  unfold neX neD
  rw [eqB_ints]
  rfl
theorem sum_ints (xs : List Int) : sumD [.lst (xs.map D.int)] = some (.int xs.sum) := by
  show (intsD (xs.map D.int)).map (fun is => D.int is.sum) = _
  rw [intsD_map]
  rfl
/-- a comprehension of draws: item by item -/
theorem k_rel {α : Type} {t : Tg} {vs : List Nat} {f : XM} {R : RC} {env : En} {S : List D} (T : α → D) (I : List D → Prop) (A : α → D → Prop) (l : List α) (h1 : (vs.all (notOwn env) && t.slots.all (fun i => decide (i ∈ vs))) = true) (hl : l.length ≤ 1000000) (hI : I S)
    (h : ∀ x ∈ l, ∀ S, I S → ∃ e, putT t (T x) (wipeE env vs) = some e ∧ ∃ d S', f R e S = some (d, S') ∧ I S' ∧ A x d) :
    ∃ ds S', compK t vs mYes f R env (some (l.map T, S)) = some (ds, S') ∧ I S' ∧ ds.length = l.length ∧ ∀ (i : Nat) x d, l[i]? = some x → ds[i]? = some d → A x d := by
  have key : ∀ (l : List α), (∀ x ∈ l, ∀ S, I S → ∃ e, putT t (T x) (wipeE env vs) = some e ∧ ∃ d S', f R e S = some (d, S') ∧ I S' ∧ A x d) → ∀ S, I S → ∃ ds S', compL t (mYes R) (f R) (l.map T) (wipeE env vs) S = some (ds, S') ∧ I S' ∧ ds.length = l.length ∧ ∀ (i : Nat) x d, l[i]? = some x → ds[i]? = some d → A x d := fun l => by
    induction l with
    | nil => intro _ S hS; exact ⟨[], S, rfl, hS, rfl, fun i x d q => by simp at q⟩
    | cons x l ih =>
      intro h S hS
      obtain ⟨e, h2, d, S1, h3, h4, h5⟩ := h x List.mem_cons_self S hS
      obtain ⟨ds, S2, g1, g2, g3, g4⟩ := ih (fun y hy => h y (List.mem_cons_of_mem _ hy)) S1 h4
      refine ⟨d :: ds, S2, ?_, g2, by simp [g3], fun i y z q1 q2 => ?_⟩
      · rw [List.map_cons]
        have hy : mYes R e S = some (true, S) := rfl
        simp only [compL, h2, hy, h3, g1, Option.bind_some, if_true, Option.map_some]
      · cases i with
        | zero => cases q1; cases q2; exact h5
        | succ i => exact g4 i y z q1 q2
  obtain ⟨ds, S', g1, g2, g3, g4⟩ := key l h S hI
  refine ⟨ds, S', ?_, g2, g3, g4⟩
  unfold compK
  rw [if_pos h1]
  show (if (l.map T).length ≤ sizeLine then _ else _) = _
  rw [if_pos (szM (by rw [List.length_map]; exact hl))]
  exact g1
theorem ints_of_draws {lo hi : Int} : ∀ {ds : List D}, (∀ d ∈ ds, ∃ i : Int, d = .int i ∧ lo ≤ i ∧ i < hi) → ∃ is : List Int, ds = is.map D.int ∧ ∀ i ∈ is, lo ≤ i ∧ i < hi
  | [], _ => ⟨[], rfl, fun _ h => (nomatch h)⟩
  | d :: ds, h => by
    obtain ⟨i, rfl, hi⟩ := h d List.mem_cons_self
    obtain ⟨is, rfl, his⟩ := ints_of_draws fun x hx => h x (List.mem_cons_of_mem _ hx)
    exact ⟨i :: is, rfl, fun j hj => by
      rcases List.mem_cons.mp hj with rfl | hj
      · exact hi
      · exact his j hj⟩
theorem nats_of : ∀ {is : List Int} {B : Int}, (∀ i ∈ is, 0 ≤ i ∧ i < B) → ∃ ns : List Nat, is = ns.map (fun (n : Nat) => (n : Int)) ∧ ∀ n ∈ ns, (n : Int) < B
  | [], _, _ => ⟨[], rfl, fun _ h => (nomatch h)⟩
  | i :: is, B, h => by
    obtain ⟨ns, rfl, hn⟩ := nats_of (is := is) (B := B) fun x hx => h x (List.mem_cons_of_mem _ hx)
    have := h i List.mem_cons_self
    refine ⟨i.toNat :: ns, ?_, fun n hm => ?_⟩
    · rw [List.map_cons, Int.toNat_of_nonneg this.1]
    · rcases List.mem_cons.mp hm with rfl | hm
      · rw [Int.toNat_of_nonneg this.1]; exact this.2
      · exact hn n hm
/-! ### kinds and their types -/
def okB (k : List Str) : Bool := k.all fun x => (PyData.str x).canLay0
theorem okB_ok {k : List Str} (h : okB k = true) : TyOk' k := fun x hx => List.all_eq_true.mp h x hx
theorem okBs_ok {ts : List Ty} (h : ts.all okB = true) : ∀ t ∈ ts, TyOk' t := fun t ht => okB_ok (List.all_eq_true.mp h t ht)
structure KP (kinds : List Str) (types : List Ty) : Prop where
  kl : kinds.length ≤ 3
  tl : types.length ≤ 8
  ne : types ≠ []
  ok : TyOk' kinds
  tok : ∀ t ∈ types, TyOk' t
  nd : types.Nodup
  knd : kinds.Nodup
  fil : ∀ t ∈ types, kinds.filter (fun x => decide (x ∈ t)) = t
theorem flat_tot {types : List Ty} {cs cs' : List Nat} {r : Nat} (hn : types.Nodup) (hl : cs.length = types.length) (hl' : cs'.length = types.length) (h : ∀ (i : Nat) x y, cs[i]? = some x → cs'[i]? = some y → min r x = min r y) (t : Ty) :
    min r ((flatC types cs).countP fun u => decide (u = t)) = min r ((flatC types cs').countP fun u => decide (u = t)) := by
  by_cases ht : t ∈ types
  · obtain ⟨i, hi, rfl⟩ := List.getElem_of_mem ht
    have g : ∀ (cs : List Nat) (hl : cs.length = types.length), cs[i]? = some ((flatC types cs).countP fun u => decide (u = types[i])) := fun cs hl => by
      have := congrArg (fun l => l[i]?) (count_flat types cs hn hl)
      simp only [List.getElem?_map, List.getElem?_eq_getElem hi, Option.map_some] at this
      exact this.symm
    exact h i _ _ (g cs hl) (g cs' hl')
  · have z : ∀ cs, (flatC types cs).countP (fun u => decide (u = t)) = 0 := fun cs => List.countP_eq_zero.mpr fun u hu q => ht (of_decide_eq_true q ▸ flatC_mem hu)
    rw [z, z]
theorem tot_made {kinds : List Str} {types : List Ty} (kp : KP kinds types) (cs : List Nat) (t : Ty) : tot kinds (rowsT (flatC types cs) kinds) (flatC types cs).length t = (flatC types cs).countP fun u => decide (u = t) := by
  unfold tot
  rw [toldR_made fun t ht => kp.fil t (flatC_mem ht)]
theorem tot_ren {order : List Int} {rows : Rows} {kinds : List Str} {n : Nat} (hp : order.Perm (rngI n)) (hx : ∀ r ∈ rows, ∀ t ∈ r.2, t ∈ rngI n) (t : Ty) : tot kinds (renR order rows) n t = tot kinds rows n t := (told_ren hp hx).countP_eq _
theorem rowsT_nd {kinds : List Str} (h : kinds.Nodup) (told : List Ty) : ((rowsT told kinds).map (·.1)).Nodup := by
  unfold rowsT
  rw [List.map_map]
  have : ((fun r : Str × List Int => r.1) ∘ fun x => (x, idxT told x)) = id := rfl
  rw [this, List.map_id]
  exact h
theorem rowsT_rng {told : List Ty} {kinds : List Str} : ∀ r ∈ rowsT told kinds, r.2.length ≤ told.length ∧ ∀ t ∈ r.2, t ∈ rngI told.length := fun r hr => by
  obtain ⟨x, _, rfl⟩ := List.mem_map.mp hr
  refine ⟨?_, fun t ht => ?_⟩
  · show (idxT told x).length ≤ _
    unfold idxT
    rw [List.length_map]
    have := List.length_filter_le (fun k => decide (x ∈ told.getD k [])) (List.range told.length)
    rw [List.length_range] at this
    exact this
  · obtain ⟨k, hk, rfl⟩ := List.mem_map.mp ht
    exact List.mem_map.mpr ⟨k, (List.mem_filter.mp hk).1, rfl⟩
theorem flatC_len' : ∀ (types : List Ty) (cs : List Nat), cs.length = types.length → (flatC types cs).length = cs.sum
  | [], [], _ => rfl
  | [], _ :: _, h => by simp at h
  | _ :: _, [], h => by simp at h
  | t :: ts, c :: cs, h => by
    have e : flatC (t :: ts) (c :: cs) = List.replicate c t ++ flatC ts cs := rfl
    rw [e, List.length_append, List.length_replicate, flatC_len' ts cs (by simpa using h), List.sum_cons]
theorem sum_le {B : Nat} : ∀ {cs : List Nat}, (∀ c ∈ cs, c ≤ B) → cs.sum ≤ cs.length * B
  | [], _ => by simp
  | c :: cs, h => by
    have := h c List.mem_cons_self
    have := sum_le (cs := cs) fun x hx => h x (List.mem_cons_of_mem _ hx)
    rw [List.sum_cons, List.length_cons, Nat.succ_mul]
    omega
theorem lv_type (k : Nat) (hk : 2 ≤ k) (S : List D) {n t : Int} {rows : Rows} {kinds : List Str} (h : (rows.map (·.1)).Nodup) (hl : kinds.length ≤ 100) : G.run k "type_in" [roomD n rows, strsD kinds, .int t] S = some (strT (typeR rows kinds t), S) := by
  obtain ⟨k, rfl⟩ : ∃ j, k = j + 1 := ⟨k - 1, by omega⟩
  rw [run_type_in]
  exact type_body _ S hl fun x _ => lv_things k (by omega) S h x
theorem lv_census (k : Nat) (hk : 3 ≤ k) (S : List D) {n : Nat} {limit : Int} {rows : Rows} {kinds : List Str} {types : List Ty} (kp : KP kinds types) (kt : G.run (k - 1) "types_of" [strsD kinds] S = some (.lst (types.map strT), S)) (h : (rows.map (·.1)).Nodup) (hn : n ≤ 100) : G.run k "census_of" [roomD n rows, strsD kinds, .int limit] S = some (intsT (censusL types (toldR rows kinds n) limit), S) := by
  obtain ⟨k, rfl⟩ : ∃ j, k = j + 1 := ⟨k - 1, by omega⟩
  rw [run_census_of]
  exact census_body _ S hn kp.ok kp.tok (by have := kp.tl; omega) (fun t => lv_type k (by omega) S h (by have := kp.kl; omega)) kt
theorem lv_roomof (k : Nat) (hk : 2 ≤ k) (S : List D) {kinds : List Str} {types : List Ty} {cs : List Nat} (kp : KP kinds types) (kt : G.run (k - 1) "types_of" [strsD kinds] S = some (.lst (types.map strT), S)) (hl : (flatC types cs).length ≤ 900) (hc : ∀ c ∈ cs, c ≤ 900) : G.run k "room_of" [strsD kinds, .tup (cs.map fun c => D.int (c : Nat))] S = some (roomD (flatC types cs).length (rowsT (flatC types cs) kinds), S) := by
  obtain ⟨k, rfl⟩ : ∃ j, k = j + 1 := ⟨k - 1, by omega⟩
  rw [run_room_of]
  exact room_body _ S (by have := kp.kl; omega) hl (by have := kp.tl; omega) hc kt
theorem lv_lcroom (k : Nat) (hk : 2 ≤ k) (S : List D) {kinds : List Str} {types : List Ty} {cs : List Nat} (kp : KP kinds types) (kt : G.run (k - 1) "_law_types" [strsD kinds] S = some (.lst (types.map strT), S)) (he : cs.length = types.length) (hl : (flatC types cs).length ≤ 900) (hc : ∀ c ∈ cs, c ≤ 900) : G.run k "_law_census_room" [strsD kinds, .tup (cs.map fun c => D.int (c : Nat))] S = some (roomD (flatC types cs).length (rowsT (flatC types cs) kinds), S) := by
  obtain ⟨k, rfl⟩ : ∃ j, k = j + 1 := ⟨k - 1, by omega⟩
  rw [run__law_census_room]
  exact lroom_body _ S (by have := kp.kl; omega) he hl (by have := kp.tl; omega) hc kt
theorem lv_ren (k : Nat) (hk : 1 ≤ k) (S : List D) {n : Int} {rows : Rows} {order : List Int} (hl : rows.length ≤ 100) (hx : ∀ r ∈ rows, r.2.length ≤ 100 ∧ ∀ t ∈ r.2, t ∈ order) : G.run k "renumbered" [roomD n rows, intsT order] S = some (roomD n (renR order rows), S) := by
  obtain ⟨k, rfl⟩ : ∃ j, k = j + 1 := ⟨k - 1, by omega⟩
  rw [run_renumbered]
  exact ren_body _ S hl hx
theorem lv_turn (k : Nat) (hk : 3 ≤ k) {S : List D} (hS : PV S) {n : Nat} (hn : n ≤ 100) : ∃ (order : List Int) (S' : List D), PV S' ∧ order.Perm (rngI n) ∧ G.run k "_law_turn" [.pool, .int (n : Nat)] S = some (intsT order, S') := by
  obtain ⟨k, rfl⟩ : ∃ j, k = j + 1 := ⟨k - 1, by omega⟩
  obtain ⟨order, S', p, pm, e⟩ := turn_body (G.run k) (drawOk k (by omega)) hS hn
  exact ⟨order, S', p, pm, by rw [run__law_turn]; exact e⟩
def tyK : List Ty := [[], ["k"]]
def tyKM : List Ty := [[], ["k"], ["k", "m"], ["m"]]
theorem kpK : KP ["k"] tyK where
  kl := by decide
  tl := by decide
  ne := by decide
  ok := okB_ok (by kernel_rfl)
  tok := okBs_ok (by kernel_rfl)
  nd := by decide +kernel
  knd := by decide
  fil := by decide +kernel
theorem kpKM : KP ["k", "m"] tyKM where
  kl := by decide
  tl := by decide
  ne := by decide
  ok := okB_ok (by kernel_rfl)
  tok := okBs_ok (by kernel_rfl)
  nd := by decide +kernel
  knd := by decide +kernel
  fil := by decide +kernel
end Ip

set_option maxHeartbeats 4000000
namespace Ip
open PySem L2
local macro_rules | `(tactic| walk_at "ev") => `(tactic| simp -implicitDefEqProofs only [v_c, v_var, v_varK, v_bin, v_binK1, v_binK2, v_pairK, v_un, v_unK, v_app, v_appK, v_call, v_callK, v_nil, v_cons, v_consK1, v_consK2, v_tup, v_lst, v_lstK, v_disp, v_ix, v_ixK1, v_ixP, v_ixT, v_ixL, at0, at1, at2, at3, at4, v_bl, v_blK, v_tru, v_truK, v_truN, v_mnot, v_notK, v_mand, v_andT, v_andF, v_mor, v_orT, v_orF, v_yes, v_xand, v_xandT, v_xandF, v_xor, v_xorT, v_xorF, v_xnot, v_xnotK, v_xif, v_xifT, v_xifF, v_ch, v_chK1, v_chK2, v_chT, v_chF, v_chK4, v_sli, v_sliK1, v_sliK2, v_sliT, v_sliL, v_onone, v_osome, v_osoK, v_iof, v_iofT, v_iofL, v_iarg, v_snil, v_seq, v_seqN, v_seqR, v_seqB, v_seqC, v_sif, v_ifT, v_ifF, v_ret, v_retK, v_asg, v_asgN, v_asgT, v_put0, v_put1, v_bk, v_ct, v_pool, v_poolK1, v_poolK2, v_pool1, v_pool2, v_pool3, v_for, v_forK, v_for0, v_for1, v_putN, v_forK1, v_forN, v_forC, v_forB, v_forR, v_par3, v_par3K1, v_par3K2, v_par3K3, v_par, v_parK1, v_parK2, v_vsh, v_vshK, v_run, v_runR, v_runN, v_comp, v_put, v_putK, v_own, v_ownK, v_lapp, v_ladd, v_laddK1, v_laddK2, v_xo, v_xoK, v_sapp, v_sappK1, v_sappK2, v_sappK3, v_lenO, v_lenK1, v_frz, v_fold0, v_fold1, v_frzK, v_frzN, v_frozen1, v_frozen2, v_frozen3, v_mth, v_mthK1, v_mthK2, v_mulI, v_min, v_list1, v_list2, o_add, o_sub, o_mul, o_mod, o_div, o_lt, o_le, o_gt, o_ge, o_int, o_neg, o_lenL, o_lenT, o_eqI, o_eqS, o_eqB, o_neI, o_neS, o_neB, o_tupL, o_tupT, startE, ob_addL, ob_addT, ob_tupK, ob_dispK, v_star, v_starK1, v_starK2, v_starK3, v_starK3i, v_dict, v_dictK, v_pair0, v_pair1, v_pairK1, v_pairK2s, v_pairK3, v_fld, v_fldK, v_met, v_metK2, v_new, v_newK, v_rev, v_revT, v_revL, v_ext, v_extK1, v_extT, v_extL, ox_neI, ox_neS, ox_neB, ox_neNI, ox_neIN, atm2, atm3, atm4, at2c1, at3c1, at4c1, at3c2, at4c2, v_vdic, v_vdicD, v_key, v_keyK1, v_keyK2, v_keyK2i, str_inj, o_in1, o_in2, o_in3, String.reduceEq, v_listL, v_listT, Bool.or_true, Bool.true_or, Bool.or_false, Bool.false_or, Bool.and_true, Bool.true_and, Bool.and_false, Bool.false_and, wipeE, List.length_map, List.length_append, List.map_cons, List.map_nil, List.length_cons, List.length_nil, List.cons_append, List.nil_append, List.append_nil, List.getElem?_cons_zero, List.getElem?_cons_succ, List.set_cons_zero, List.set_cons_succ, List.replicate_succ, List.replicate_zero, Nat.reduceAdd, Nat.reduceSub, Nat.reduceLeDiff, Int.reduceNeg, Int.reducePow, Int.reduceLT, Int.reduceLE, Int.reduceNe, Int.reduceEq, Int.reduceAdd, nI, Int.reduceSub, Int.natAbs, ne_eq, not_false_eq_true, and_true, true_and, and_self, decide_true, decide_false, Nat.reduceLT, Nat.reduceEqDiff, reduceCtorEq, Bool.not_true, Bool.not_false, i_non_int, i_non_str, i_non_bool, i_non_tuple, i_non_list, n_non, nn_non, i_bl_int, i_bl_str, i_bl_bool, i_bl_tuple, i_bl_list, n_bl, nn_bl, i_int_int, i_int_str, i_int_bool, i_int_tuple, i_int_list, n_int, nn_int, i_str_int, i_str_str, i_str_bool, i_str_tuple, i_str_list, n_str, nn_str, i_tup_int, i_tup_str, i_tup_bool, i_tup_tuple, i_tup_list, n_tup, nn_tup, i_lst_int, i_lst_str, i_lst_bool, i_lst_tuple, i_lst_list, n_lst, nn_lst, i_dic_int, i_dic_str, i_dic_bool, i_dic_tuple, i_dic_list, n_dic, nn_dic])
local macro_rules | `(tactic| walk_at "evh") => `(tactic| simp -implicitDefEqProofs only [v_c, v_var, v_varK, v_bin, v_binK1, v_binK2, v_pairK, v_un, v_unK, v_app, v_appK, v_call, v_callK, v_nil, v_cons, v_consK1, v_consK2, v_tup, v_lst, v_lstK, v_disp, v_ix, v_ixK1, v_ixP, v_ixT, v_ixL, at0, at1, at2, at3, at4, v_bl, v_blK, v_tru, v_truK, v_truN, v_mnot, v_notK, v_mand, v_andT, v_andF, v_mor, v_orT, v_orF, v_yes, v_xand, v_xandT, v_xandF, v_xor, v_xorT, v_xorF, v_xnot, v_xnotK, v_xif, v_xifT, v_xifF, v_ch, v_chK1, v_chK2, v_chT, v_chF, v_chK4, v_sli, v_sliK1, v_sliK2, v_sliT, v_sliL, v_onone, v_osome, v_osoK, v_iof, v_iofT, v_iofL, v_iarg, v_snil, v_seq, v_seqN, v_seqR, v_seqB, v_seqC, v_sif, v_ifT, v_ifF, v_ret, v_retK, v_asg, v_asgN, v_asgT, v_put0, v_put1, v_bk, v_ct, v_pool, v_poolK1, v_poolK2, v_pool1, v_pool2, v_pool3, v_for, v_forK, v_for0, v_for1, v_putN, v_forK1, v_forN, v_forC, v_forB, v_forR, v_par3, v_par3K1, v_par3K2, v_par3K3, v_par, v_parK1, v_parK2, v_vsh, v_vshK, v_run, v_runR, v_runN, v_comp, v_put, v_putK, v_own, v_ownK, v_lapp, v_ladd, v_laddK1, v_laddK2, v_xo, v_xoK, v_sapp, v_sappK1, v_sappK2, v_sappK3, v_lenO, v_lenK1, v_frz, v_fold0, v_fold1, v_frzK, v_frzN, v_frozen1, v_frozen2, v_frozen3, v_mth, v_mthK1, v_mthK2, v_mulI, v_min, v_list1, v_list2, o_add, o_sub, o_mul, o_mod, o_div, o_lt, o_le, o_gt, o_ge, o_int, o_neg, o_lenL, o_lenT, o_eqI, o_eqS, o_eqB, o_neI, o_neS, o_neB, o_tupL, o_tupT, startE, ob_addL, ob_addT, ob_tupK, ob_dispK, v_star, v_starK1, v_starK2, v_starK3, v_starK3i, v_dict, v_dictK, v_pair0, v_pair1, v_pairK1, v_pairK2s, v_pairK3, v_fld, v_fldK, v_met, v_metK2, v_new, v_newK, v_rev, v_revT, v_revL, v_ext, v_extK1, v_extT, v_extL, ox_neI, ox_neS, ox_neB, ox_neNI, ox_neIN, atm2, atm3, atm4, at2c1, at3c1, at4c1, at3c2, at4c2, v_vdic, v_vdicD, v_key, v_keyK1, v_keyK2, v_keyK2i, str_inj, o_in1, o_in2, o_in3, String.reduceEq, v_listL, v_listT, Bool.or_true, Bool.true_or, Bool.or_false, Bool.false_or, Bool.and_true, Bool.true_and, Bool.and_false, Bool.false_and, wipeE, List.length_map, List.length_append, List.map_cons, List.map_nil, List.length_cons, List.length_nil, List.cons_append, List.nil_append, List.append_nil, List.getElem?_cons_zero, List.getElem?_cons_succ, List.set_cons_zero, List.set_cons_succ, List.replicate_succ, List.replicate_zero, Nat.reduceAdd, Nat.reduceSub, Nat.reduceLeDiff, Int.reduceNeg, Int.reducePow, Int.reduceLT, Int.reduceLE, Int.reduceNe, Int.reduceEq, Int.reduceAdd, nI, Int.reduceSub, Int.natAbs, ne_eq, not_false_eq_true, and_true, true_and, and_self, decide_true, decide_false, Nat.reduceLT, Nat.reduceEqDiff, reduceCtorEq, Bool.not_true, Bool.not_false, i_non_int, i_non_str, i_non_bool, i_non_tuple, i_non_list, n_non, nn_non, i_bl_int, i_bl_str, i_bl_bool, i_bl_tuple, i_bl_list, n_bl, nn_bl, i_int_int, i_int_str, i_int_bool, i_int_tuple, i_int_list, n_int, nn_int, i_str_int, i_str_str, i_str_bool, i_str_tuple, i_str_list, n_str, nn_str, i_tup_int, i_tup_str, i_tup_bool, i_tup_tuple, i_tup_list, n_tup, nn_tup, i_lst_int, i_lst_str, i_lst_bool, i_lst_tuple, i_lst_list, n_lst, nn_lst, i_dic_int, i_dic_str, i_dic_bool, i_dic_tuple, i_dic_list, n_dic, nn_dic, *])

theorem rank_nn {kinds ns : List Str} {f : Fm} (h : f.On kinds ns) : 0 ≤ f.rank := by
  cases f <;> simp only [Fm.rank] <;> try omega
  have := h.1
  omega
structure KT (kinds : List Str) (types init : List Ty) : Prop extends KP kinds types where
  ik : kinds ≠ []
  il : init.length + 1 = types.length
  icut : cutD (types.map strT) none (some (-1)) = init.map strT
  ty8 : ∀ S, G.run 58 "types_of" [strsD kinds] S = some (.lst (types.map strT), S)
  lty8 : ∀ S, G.run 58 "_law_types" [strsD kinds] S = some (.lst (types.map strT), S)
  lty9 : ∀ S, G.run 59 "_law_types" [strsD kinds] S = some (.lst (types.map strT), S)
theorem ktK : KT ["k"] tyK [[]] where
  toKP := kpK
  ik := by decide
  il := rfl
  icut := by kernel_rfl
  ty8 := fun S => by kernel_rfl
  lty8 := fun S => by kernel_rfl
  lty9 := fun S => by kernel_rfl
theorem ktKM : KT ["k", "m"] tyKM [[], ["k"], ["k", "m"]] where
  toKP := kpKM
  ik := by decide
  il := rfl
  icut := by kernel_rfl
  ty8 := fun S => by kernel_rfl
  lty8 := fun S => by kernel_rfl
  lty9 := fun S => by kernel_rfl
theorem nats_at {cs : List Nat} {ds : List D} {A : Nat → Nat → Prop} (hl : ds.length = cs.length) (h : ∀ (i : Nat) x d, cs[i]? = some x → ds[i]? = some d → ∃ y : Nat, d = .int (y : Int) ∧ A x y) :
    ∃ ms : List Nat, ds = ms.map (fun (c : Nat) => D.int (c : Nat)) ∧ ms.length = cs.length ∧ ∀ (i : Nat) x y, cs[i]? = some x → ms[i]? = some y → A x y := by
  let g : D → Nat := fun d => match d with
    | .int i => i.toNat
    | _ => 0
  have e : ds = (ds.map g).map (fun (c : Nat) => D.int (c : Nat)) := by
    refine List.ext_getElem? fun i => ?_
    rw [List.map_map, List.getElem?_map]
    cases hd : ds[i]? with
    | none => rfl
    | some d =>
      have hi := (List.getElem?_eq_some_iff.mp hd).1
      obtain ⟨y, rfl, _⟩ := h i cs[i] d (List.getElem?_eq_getElem (by omega)) hd
      show some (D.int (y : Int)) = some (D.int ((Int.toNat (y : Int) : Nat) : Int))
      rw [Int.toNat_natCast]
  refine ⟨ds.map g, e, by rw [List.length_map, hl], fun i x y h1 h2 => ?_⟩
  rw [List.getElem?_map] at h2
  cases hd : ds[i]? with
  | none => rw [hd] at h2; cases h2
  | some d =>
    rw [hd] at h2
    obtain ⟨z, rfl, hz⟩ := h i x d h1 hd
    have h2 : Int.toNat (z : Int) = y := Option.some.inj h2
    rw [Int.toNat_natCast] at h2
    exact h2 ▸ hz
def I06 (kinds : List Str) (env : En) (S : List D) : Prop := PV S ∧ ∃ x3 x4 x5 x6 x7 x9 x10 x11 x13 x14, env = [none, some (.sh .pool), some (.sh (strsD kinds)), x3, x4, x5, x6, x7, none, x9, x10, x11, none, x13, x14]
theorem room_ix0 {n : Int} {rows : Rows} {S : List D} : ixK2 (roomD n rows) (some (.int 0, S)) = some (.int n, S) := rfl
theorem ren_nd {order : List Int} {rows : Rows} (h : (rows.map (·.1)).Nodup) : ((renR order rows).map (·.1)).Nodup := by
  unfold renR
  rw [List.map_map]
  exact h
theorem turn06 {kinds : List Str} {types init : List Ty} (kt : KT kinds types init) (d : D) (env : En) (S : List D) (hI : I06 kinds env S) :
    ∃ e env' S', putT (.name 3) d env = some e ∧ (s_law_1_b (G.run 59) e S = some (.nx, env', S') ∨ s_law_1_b (G.run 59) e S = some (.ct, env', S')) ∧ I06 kinds env' S' := by
  obtain ⟨hS, x3, x4, x5, x6, x7, x9, x10, x11, x13, x14, rfl⟩ := hI
  obtain ⟨f, S1, p1, o1, d1, r1, e1⟩ := lv_sentence 59 2 (by decide) (kinds := kinds) kt.ik (by have := kt.kl; omega) (by decide) hS
  have e2 := lv_rank 6 59 f S1 d1 (by decide)
  have e3 := kt.lty9 S1
  have kl := kt.kl
  have tl := kt.tl
  have il := kt.il
  have icut := kt.icut
  have hD := drawOk 59 (by decide)
  simp only [nI, Nat.reduceAdd] at e1
  obtain ⟨q, hq⟩ : ∃ q : Nat, f.rank = (q : Int) := ⟨f.rank.toNat, by have := rank_nn o1.on; omega⟩
  rw [hq] at e2
  -- the census
  obtain ⟨ds, S2, e4, p2, l2, hds⟩ := k_any (R := G.run 59) (t := .name 8) (vs := [8]) (f := xCall "_law_draw" (aCons (xVar 1) (aCons (xC (.int 5)) (aNil)))) (env := [none, some (.sh .pool), some (.sh (strsD kinds)), some (.sh d), some (.sh f.toD), some (.sh (.int (q : Int))), some (.sh (.lst (types.map strT))), x7, none, x9, x10, x11, none, x13, x14])
    strT PV (fun d => ∃ i : Int, d = .int i ∧ 0 ≤ i ∧ i < 5) init (by rfl) (by omega) p1 (fun x _ S hS => by
      obtain ⟨v, S', p', v0, v1, ev⟩ := hD S 5 hS (by decide) (by decide)
      exact ⟨_, rfl, .int v, S', by walk_at "evh", p', v, rfl, v0, v1⟩)
  obtain ⟨is, rfl, his⟩ := ints_of_draws hds
  obtain ⟨ns, rfl, hns⟩ := nats_of his
  obtain ⟨w, S3, p3, w0, w1, e5⟩ := hD S2 4 p2 (by decide) (by decide)
  obtain ⟨w, rfl⟩ : ∃ z : Nat, w = (z : Int) := ⟨w.toNat, by omega⟩
  rw [List.map_map, List.length_map] at l2
  let cs : List Nat := ns ++ [1 + w]
  have hcs : ∀ c ∈ cs, c ≤ 4 := fun c hc => by
    rcases List.mem_append.mp hc with h | h
    · have := hns c h; omega
    · rw [List.mem_singleton] at h; omega
  have csl : cs.length = types.length := by show (ns ++ [1 + w]).length = _; rw [List.length_append]; simp; omega
  have cse : D.tup ((ns.map (fun (n : Nat) => (n : Int))).map D.int ++ [.int (1 + (w : Int))]) = .tup (cs.map fun (c : Nat) => D.int (c : Nat)) := by
    show _ = D.tup ((ns ++ [1 + w]).map fun (c : Nat) => D.int (c : Nat))
    rw [List.map_append, List.map_map, List.map_singleton, show ((1 + w : Nat) : Int) = 1 + (w : Int) by omega]
    rfl
  have fl : (flatC types cs).length ≤ 32 := by
    rw [flatC_len' types cs csl]
    have := sum_le hcs
    have : cs.length * 4 ≤ 8 * 4 := Nat.mul_le_mul_right 4 (by omega)
    omega
  have e6 := lv_lcroom 59 (by decide) S3 kt.toKP (kt.lty8 S3) csl (by omega) (fun c hc => by have := hcs c hc; omega)
  have rnd := rowsT_nd kt.knd (flatC types cs)
  -- the room of the census
  let L : Nat := max 1 q
  have hqL : q ≤ L := Nat.le_max_right 1 q
  have hL : maxD [.int 1, .int (q : Int)] = some (.int (L : Int)) := by
    show some (D.int (if (q : Int) > 1 then (q : Int) else 1)) = _
    refine congrArg (fun z => some (D.int z)) ?_
    show _ = ((max 1 q : Nat) : Int)
    split <;> omega
  have e7 := lv_census 59 (by decide) S3 (n := (flatC types cs).length) (rows := rowsT (flatC types cs) kinds) (limit := (L : Int)) kt.toKP (kt.ty8 S3) rnd (by omega)
  rw [census_made kt.nd csl kt.fil] at e7
  have lse : intsT (cs.map fun c => cutI (L : Int) (c : Nat)) = .tup ((cs.map fun c => min L c).map fun (c : Nat) => D.int (c : Nat)) := by
    unfold intsT
    rw [List.map_map, List.map_map]
    refine congrArg D.tup (List.map_congr_left fun c _ => ?_)
    show D.int (if (c : Int) < (L : Int) then (c : Int) else (L : Int)) = D.int ((min L c : Nat) : Int)
    refine congrArg D.int ?_
    split <;> omega
  rw [lse] at e7
  have hls : ∀ c ∈ cs.map (fun c => min L c), c ≤ 4 := fun c hc => by
    obtain ⟨x, hx, rfl⟩ := List.mem_map.mp hc
    have := hcs x hx
    omega
  have lsl : (cs.map fun c => min L c).length = types.length := by rw [List.length_map]; exact csl
  have fl2 : (flatC types (cs.map fun c => min L c)).length ≤ 32 := by
    rw [flatC_len' types _ lsl]
    have := sum_le hls
    have : (cs.map fun c => min L c).length * 4 ≤ 8 * 4 := Nat.mul_le_mul_right 4 (by omega)
    omega
  have e8 := lv_roomof 59 (by decide) S3 (cs := cs.map fun c => min L c) kt.toKP (kt.ty8 S3) (by omega) (fun c hc => by have := hls c hc; omega)
  -- more of some
  obtain ⟨ds2, S4, e9, p4, l4, hds2⟩ := k_rel (R := G.run 59) (S := S3) (t := .name 12) (vs := [12]) (f := xBin addD (xVar 12) (xIf (mBl (xBin geD (xVar 12) (xApp maxD (aCons (xC (.int 1)) (aCons (xVar 5) (aNil)))))) (xCall "_law_draw" (aCons (xVar 1) (aCons (xC (.int 3)) (aNil)))) (xC (.int 0))))
    (env := [none, some (.sh .pool), some (.sh (strsD kinds)), some (.sh d), some (.sh f.toD), some (.sh (.int (q : Int))), some (.sh (.lst (types.map strT))), some (.sh (.tup (cs.map fun (c : Nat) => D.int (c : Nat)))), none, some (.sh (roomD (flatC types cs).length (rowsT (flatC types cs) kinds))), some (.sh (roomD (flatC types (cs.map fun c => min L c)).length (rowsT (flatC types (cs.map fun c => min L c)) kinds))), x11, none, x13, x14])
    (fun (c : Nat) => D.int (c : Nat)) PV (fun c d => ∃ y : Nat, d = .int (y : Int) ∧ (c ≤ y ∧ y ≤ c + 2 ∧ (c < y → L ≤ c))) cs (by rfl) (by omega) p3 (fun c hc S hS => by
      refine ⟨_, rfl, ?_⟩
      by_cases hcl : L ≤ c
      · obtain ⟨v, S', p', v0, v1, ev⟩ := hD S 3 hS (by decide) (by decide)
        have hge : decide ((L : Int) ≤ (c : Int)) = true := decide_eq_true (by omega)
        refine ⟨.int ((c : Int) + v), S', ?_, p', c + v.toNat, congrArg D.int (by omega), by omega, by omega, fun _ => hcl⟩
        walk_at "ev"
        rw [hL]
        walk_at "ev"
        rw [hge]
        walk_at "ev"
        rw [ev]
        walk_at "ev"
      · have hge : decide ((L : Int) ≤ (c : Int)) = false := decide_eq_false (by omega)
        refine ⟨.int ((c : Int) + 0), S, ?_, hS, c, congrArg D.int (by omega), by omega, by omega, fun h => absurd h (by omega)⟩
        walk_at "ev"
        rw [hL]
        walk_at "ev"
        rw [hge]
        walk_at "ev")
  obtain ⟨ms, rfl, msl, hms⟩ := nats_at l4 hds2
  have hms7 : ∀ m ∈ ms, m ≤ 6 := fun m hm => by
    obtain ⟨i, hi, rfl⟩ := List.getElem_of_mem hm
    have hi2 : i < cs.length := by omega
    have := hms i (cs[i]'hi2) (ms[i]'hi) (List.getElem?_eq_getElem hi2) (List.getElem?_eq_getElem hi)
    have := hcs (cs[i]'hi2) (List.getElem_mem hi2)
    omega
  have fl3 : (flatC types ms).length ≤ 48 := by
    rw [flatC_len' types ms (by omega)]
    have := sum_le hms7
    have : ms.length * 6 ≤ 8 * 6 := Nat.mul_le_mul_right 6 (by omega)
    omega
  have e10 := lv_lcroom 59 (by decide) S4 (cs := ms) kt.toKP (kt.lty8 S4) (by omega) (by omega) (fun c hc => by have := hms7 c hc; omega)
  have rnd2 := rowsT_nd kt.knd (flatC types (cs.map fun c => min L c))
  have rnd3 := rowsT_nd kt.knd (flatC types ms)
  let v : Str → Int := fun _ => 0
  have same2 : sat (flatC types (cs.map fun c => min L c)).length (rowsT (flatC types (cs.map fun c => min L c)) kinds) f v = sat (flatC types cs).length (rowsT (flatC types cs) kinds) f v :=
    census_sat (r := q) (by omega) o1.on (fun t => by
      rw [tot_made kt.toKP, tot_made kt.toKP]
      refine flat_tot kt.nd lsl csl (fun i x y h1 h2 => ?_) t
      rw [List.getElem?_map, h2] at h1
      have h1 := Option.some.inj h1
      rw [← h1]
      show min q (min L y) = min q y
      omega) v v
  have same3 : sat (flatC types ms).length (rowsT (flatC types ms) kinds) f v = sat (flatC types cs).length (rowsT (flatC types cs) kinds) f v :=
    census_sat (r := q) (by omega) o1.on (fun t => by
      rw [tot_made kt.toKP, tot_made kt.toKP]
      refine flat_tot kt.nd (by omega) csl (fun i x y h1 h2 => ?_) t
      have := hms i y x h2 h1
      omega) v v
  have cl := o1.cl
  have h1 := lv_lholds (flatC types cs).length (rowsT (flatC types cs) kinds) (by omega) rnd f 59 S4 (by omega) cl (by omega) v
  have h2 := lv_holds (flatC types cs).length (rowsT (flatC types cs) kinds) (by omega) rnd f 59 S4 (by omega) cl (by omega) v
  have h3 := lv_holds (flatC types (cs.map fun c => min L c)).length (rowsT (flatC types (cs.map fun c => min L c)) kinds) (by omega) rnd2 f 59 S4 (by omega) cl (by omega) v
  have h4 := lv_lholds (flatC types (cs.map fun c => min L c)).length (rowsT (flatC types (cs.map fun c => min L c)) kinds) (by omega) rnd2 f 59 S4 (by omega) cl (by omega) v
  have h5 := lv_holds (flatC types ms).length (rowsT (flatC types ms) kinds) (by omega) rnd3 f 59 S4 (by omega) cl (by omega) v
  rw [same2] at h3 h4
  rw [same3] at h5
  have c1 := lv_census 59 (by decide) S4 (n := (flatC types cs).length) (rows := rowsT (flatC types cs) kinds) (limit := (q : Int)) kt.toKP (kt.ty8 S4) rnd (by omega)
  have c2 := lv_census 59 (by decide) S4 (n := (flatC types ms).length) (rows := rowsT (flatC types ms) kinds) (limit := (q : Int)) kt.toKP (kt.ty8 S4) rnd3 (by omega)
  rw [census_made kt.nd csl kt.fil] at c1
  rw [census_made kt.nd (by omega) kt.fil] at c2
  have ceq : (ms.map fun c => cutI (q : Int) (c : Nat)) = cs.map fun c => cutI (q : Int) (c : Nat) := by
    refine List.ext_getElem (by simp; omega) fun i hi1 hi2 => ?_
    rw [List.getElem_map, List.getElem_map]
    rw [List.length_map] at hi1 hi2
    have := hms i (cs[i]'hi2) (ms[i]'hi1) (List.getElem?_eq_getElem hi2) (List.getElem?_eq_getElem hi1)
    unfold cutI
    split <;> split <;> omega
  rw [ceq] at c2
  have nx := neX_ints (cs.map fun c => cutI (q : Int) (c : Nat)) (cs.map fun c => cutI (q : Int) (c : Nat))
  rw [decide_eq_true rfl] at nx
  -- the order
  obtain ⟨order, S5, p5, pm, e11⟩ := lv_turn 59 (by decide) p4 (n := (flatC types cs).length) (by omega)
  have hrow := rowsT_rng (told := flatC types cs) (kinds := kinds)
  have e12 := lv_ren 59 (by decide) S5 (n := (flatC types cs).length) (rows := rowsT (flatC types cs) kinds) (order := order) (by unfold rowsT; rw [List.length_map]; omega) (fun r hr => ⟨by have := (hrow r hr).1; omega, fun t ht => pm.mem_iff.mpr ((hrow r hr).2 t ht)⟩)
  have same4 : sat (flatC types cs).length (renR order (rowsT (flatC types cs) kinds)) f v = sat (flatC types cs).length (rowsT (flatC types cs) kinds) f v :=
    census_sat (r := q) (by omega) o1.on (fun t => by rw [tot_ren pm fun r hr t ht => (hrow r hr).2 t ht]) v v
  have h6 := lv_holds (flatC types cs).length (renR order (rowsT (flatC types cs) kinds)) (by omega) (ren_nd rnd) f 59 S5 (by omega) cl (by omega) v
  rw [same4] at h6
  have hnl : ((ns.map (fun (n : Nat) => (n : Int))).map D.int).length + [D.int (1 + (w : Int))].length ≤ 1000000 := by rw [List.length_map, List.length_map]; simp only [List.length_singleton]; omega
  refine ⟨_, [none, some (.sh .pool), some (.sh (strsD kinds)), some (.sh d), some (.sh f.toD), some (.sh (.int (q : Int))), some (.sh (.lst (types.map strT))), some (.sh (.tup (cs.map fun (c : Nat) => D.int (c : Nat)))), none, some (.sh (roomD (flatC types cs).length (rowsT (flatC types cs) kinds))), some (.sh (roomD (flatC types (cs.map fun c => min L c)).length (rowsT (flatC types (cs.map fun c => min L c)) kinds))), some (.sh (.tup (ms.map fun (c : Nat) => D.int (c : Nat)))), none, some (.sh (.bl (sat (flatC types cs).length (rowsT (flatC types cs) kinds) f v))), some (.sh (intsT order))], S5, rfl, .inl ?_, p5, _, _, _, _, _, _, _, _, _, _, rfl⟩
  have hsum : sumD [.lst (ms.map fun (c : Nat) => D.int (c : Nat))] = some (.int (ms.map fun (c : Nat) => (c : Int)).sum) := by
    have := sum_ints (ms.map fun (c : Nat) => (c : Int))
    rw [List.map_map] at this
    exact this
  clear same2 same3 same4 hds hds2 his hns
  unfold s_law_1_b
  simp only [List.set_cons_succ, List.set_cons_zero]
  walk_at "ev"
  rw [e1]
  walk_at "ev"
  rw [e2]
  walk_at "ev"
  rw [e3]
  walk_at "ev"
  rw [icut]
  rw [e4]
  walk_at "ev"
  rw [e5]
  walk_at "ev"
  rw [ob_addT hnl, cse]
  walk_at "ev"
  rw [e6]
  walk_at "ev"
  rw [hL]
  walk_at "ev"
  rw [e7]
  walk_at "ev"
  rw [e8]
  walk_at "ev"
  rw [e9]
  walk_at "ev"
  rw [h1]
  walk_at "ev"
  rw [h2]
  walk_at "ev"
  rw [h3]
  walk_at "ev"
  rw [h4]
  walk_at "ev"
  rw [hsum]
  have tail : ∀ x14, seqK (sSeq (sIf (mBl (xBin neX (xCall "holds" (aCons (xCall "renumbered" (aCons (xVar 9) (aCons (xVar 14) (aNil)))) (aCons (xVar 4) (aNil)))) (xVar 13))) (sSeq (sRet (xC (.bl false))) (sNil)) (sNil)) (sNil)) (G.run 59)
      (asgK (.name 14) [none, some (.sh .pool), some (.sh (strsD kinds)), some (.sh d), some (.sh f.toD), some (.sh (.int (q : Int))), some (.sh (.lst (types.map strT))), some (.sh (.tup (cs.map fun (c : Nat) => D.int (c : Nat)))), none, some (.sh (roomD (flatC types cs).length (rowsT (flatC types cs) kinds))), some (.sh (roomD (flatC types (cs.map fun c => min L c)).length (rowsT (flatC types (cs.map fun c => min L c)) kinds))), some (.sh (.tup (ms.map fun (c : Nat) => D.int (c : Nat)))), none, some (.sh (.bl (sat (flatC types cs).length (rowsT (flatC types cs) kinds) f v))), x14]
        (callK "_law_turn" (G.run 59) (some ([.pool, .int ((flatC types cs).length : Nat)], S4)))) =
      some (.nx, [none, some (.sh .pool), some (.sh (strsD kinds)), some (.sh d), some (.sh f.toD), some (.sh (.int (q : Int))), some (.sh (.lst (types.map strT))), some (.sh (.tup (cs.map fun (c : Nat) => D.int (c : Nat)))), none, some (.sh (roomD (flatC types cs).length (rowsT (flatC types cs) kinds))), some (.sh (roomD (flatC types (cs.map fun c => min L c)).length (rowsT (flatC types (cs.map fun c => min L c)) kinds))), some (.sh (.tup (ms.map fun (c : Nat) => D.int (c : Nat)))), none, some (.sh (.bl (sat (flatC types cs).length (rowsT (flatC types cs) kinds) f v))), some (.sh (intsT order))], S5) := fun x14 => by
    walk_at "ev"
    rw [e11]
    walk_at "ev"
    rw [e12]
    walk_at "ev"
    rw [h6]
    walk_at "ev"
  by_cases hz : ((ms.map fun (c : Nat) => (c : Int)).sum) < 10
  · walk_at "ev"
    rw [decide_eq_true hz]
    walk_at "ev"
    rw [e10]
    walk_at "ev"
    rw [h5]
    walk_at "ev"
    rw [e10]
    walk_at "ev"
    rw [c2]
    walk_at "ev"
    rw [c1]
    walk_at "ev"
    rw [nx]
    walk_at "ev"
    rw [room_ix0]
    exact tail _
  · walk_at "ev"
    rw [decide_eq_false hz]
    walk_at "ev"
    rw [room_ix0]
    exact tail _
theorem law_plain (ns : List Int) (salt : Int) (h : ns.length ≤ 63) : ∃ env' S', b_law (G.run 59) (envL 15 1) (pool0 ns salt) = some (.ret (.bl true), env', S') := by
  obtain ⟨v, S1, p1, v0, v3, e1⟩ := drawOk 59 (by decide) _ 2 (PV.pool0 (ns := ns) (salt := salt)) (by decide) (by decide)
  have en : envL 15 1 = [none, some (.sh .pool), none, none, none, none, none, none, none, none, none, none, none, none, none] := rfl
  obtain ⟨kinds, types, init, hkk, kt⟩ : ∃ kinds types init, cutD ([.str "k", .str "m"] : List D) none (some (1 + v)) = kinds.map D.str ∧ KT kinds types init := by
    rcases (by omega : v = 0 ∨ v = 1) with rfl | rfl
    · exact ⟨_, _, _, rfl, ktK⟩
    · exact ⟨_, _, _, rfl, ktKM⟩
  obtain ⟨env3, S3, e3, p3, x3, x4, x5, x6, x7, x9, x10, x11, x13, x14, hen⟩ := for_inv (t := .name 3) (B := s_law_1_b (G.run 59)) (I06 kinds) (rangeD 3) (fun d _ env S hI => turn06 kt d env S hI)
    [none, some (.sh .pool), some (.sh (strsD kinds)), none, none, none, none, none, none, none, none, none, none, none, none] S1 ⟨p1, _, _, _, _, _, _, _, _, _, _, rfl⟩
  have e4 := o_rng (n := 3) (by decide)
  simp only [nI] at e4
  rw [show strsD kinds = D.lst (kinds.map D.str) from rfl] at e3
  unfold b_law s_law_0 s_law_1 s_law_2
  rw [en]
  walk_at "ev"
  rw [e1]
  walk_at "ev"
  rw [hkk]
  rw [v_iargK e4]
  walk_at "ev"
  rw [e3]
  walk_at "ev"
  exact ⟨_, _, rfl⟩
end Ip

set_option maxHeartbeats 4000000
namespace Ip
open PySem L2
theorem body_law : ∃ (q1 q2 q3 q4 q5 : Pos) (rest : List Stmt), defBody i_law.st = .Assign [.Name "pool" q1] (.Call (.Name "_law_pool" q2) [.Name "script" q3] [] q4) q5 :: rest ∧ compSs 60 (G.ctx i_law) rest = some b_law := ⟨_, _, _, _, _, _, rfl, by kernel_rfl⟩
theorem scP : FnScope ["script", "salt", "cell"] ["script"] (defScope i__law_pool.st) := ⟨rfl, rfl, rfl, by decide +kernel, rfl, by decide +kernel, by decide +kernel⟩
theorem ok_pool {P : Program} {w : World} {K : PySem.W.Frag} {mg : Str → Option Value} {base : Heap} {k : Nat} {f : Addr} {fd : FuncData} (F : Fun K "_law_pool" "_law_pool" i__law_pool.st f fd) (mi : mg "int" = none) (ml : mg "list" = none) : FnOk P w K mg base CX0 (k + 1) f fd ["script"] (spPool K) := by
  refine F.ok scP (fun vs H Q E h => ?_) (fun cdv A outer s H vs Q E hr h => ?_)
  · obtain ⟨a, ns, rfl, _⟩ := h
    rfl
  obtain ⟨a, ns, rfl, hS, h63, q⟩ := h
  refine ⟨_, pss_cons (ps_set (i := 1) scP.nd rfl (.inl rfl) pe_int)
    (pss_cons (ps_for PassesOwn.never rfl (pi_list (pe_slice sl_list (pv 0) po_none (po_some pe_int))) (pg_name (i := 2) scP.nd rfl (.inl rfl))
      (pss_one (ps_set (i := 1) scP.nd rfl (.inl rfl) (pe_op op_mod (pe_callTy call_int1 (by rfl) mi (by decide +kernel) (pa_cons (pe_op op_add (pe_op op_mul (pv 1) pe_int) (pv 2)) pa_nil)) pe_int))))
    (pss_one (ps_ret (pe_lst (pa_cons (pe_callTy call_list_of (by rfl) ml (by decide +kernel) (pa_cons (pv 0) pa_nil)) (pa_cons pe_int (pa_cons pe_int (pa_cons pe_int (pa_cons (pv 1) pa_nil))))))))), ?_⟩
  have cut : ∀ hi : Option Int, ∃ ms : List Int, cutV (ns.map V.int) none hi = ms.map V.int := fun hi => by
    unfold cutV
    rw [← List.map_drop, ← List.map_take]
    exact ⟨_, rfl⟩
  obtain ⟨ms, em⟩ := cut (some 63)
  refine ⟨.ref a, rfl, 63, rfl, a, ns.map V.int, rfl, hS, fun c nc => ?_⟩
  rw [em]
  have s1 : Same H (upd H c (.lst (ms.map V.int))) := same_new nc
  have hC : SqL K (upd H c (.lst (ms.map V.int))) c (ms.map V.int) := .inl (.inl upd_same)
  refine ⟨c, rfl, ⟨_, hC⟩, fun i m σ H3 => ∃ (z : Int) (y : Option V), σ = [some (.ref a), some (.int z), y] ∧ i + m = ms.length ∧ H3 = upd H c (.lst (ms.map V.int)), ⟨ms.length, 7, none, rfl, by omega, rfl⟩, fun i m σ H3 hW => ?_⟩
  obtain ⟨z, y, rfl, hm, rfl⟩ := hW
  by_cases hi : i < ms.length
  · have g : (ms.map V.int)[i]? = some (.int ms[i]) := by
      rw [List.getElem?_map, List.getElem?_eq_getElem hi]
      rfl
    refine .inr ⟨⟨_, _, hC, g⟩, fun σ' H' => ∃ (z : Int) (y : Option V), σ' = [some (.ref a), some (.int z), y] ∧ H' = upd H c (.lst (ms.map V.int)), fun σ' H' hN => ?_, fun v H' hy => ?_⟩
    · obtain ⟨z', y', e1, e2⟩ := hN
      exact ⟨m - 1, by omega, z', y', e1, by omega, e2⟩
    · obtain ⟨rfl, fv⟩ := hy
      have ev : v = .int ms[i] := Option.some.inj ((fv _ hC).symm.trans g)
      subst ev
      refine ⟨_, rfl, _, _, rfl, rfl, .inr ⟨by decide, by decide⟩, .int ms[i], rfl, _, _, rfl, rfl, .inl ⟨_, rfl, _, _, rfl, rfl, (by show (0 : Int) < 1000003; decide), ?_⟩⟩
      exact ⟨_, _, rfl, rfl⟩
  · have hl : i = ms.length := by omega
    refine .inl ⟨⟨_, hC, by rw [List.length_map, hl]; exact Nat.le_refl _⟩, ?_⟩
    refine ⟨.ref a, rfl, a, ns.map V.int, rfl, .inl (s1.seq hS), fun l nl => ⟨.int z, rfl, (by show 5 ≤ sizeLine; decide), fun p np => ?_⟩⟩
    have s2 : Same (upd H c (.lst (ms.map V.int))) (upd (upd H c (.lst (ms.map V.int))) l (.lst (ns.map V.int))) := same_new nl
    have nlp : l ≠ p := fun z => by
      rw [← z, upd_same] at np
      cases np
    refine q z l p _ ((s1.trans s2).trans (same_new np)) ((s1.trans s2).free np) (s1.free nl) nlp ?_ upd_same
    rw [upd_ne nlp]
    exact upd_same

theorem nodup_defs : (G.all.map DefI.name).Nodup := by decide +kernel
theorem all_mk {l : PySem.W.OpenLaw} {w : World} {K : PySem.W.Frag} {mg : Str → Option Value} {fa : Addr} (hfa : mg "law" = some (.ref fa)) (hL : DefAt K mg i_law) (hP : DefAt K mg i__law_pool) (hD : ∀ d ∈ G.defs, DefAt K mg d)
    (hB : ∀ x ∈ G.bls, mg x = none) (hC : ∀ c ∈ G.cs, CsAt K mg c.1 c.2) (hK : ∀ c ∈ G.cls, ClsOk G K mg c) (mi : mg "int" = none) (ml : mg "list" = none) :
    ∃ fd : FuncData, (∀ (s : Shared) (v : Value), BindsTo s fd ⟨[v], []⟩ [("script", v)]) ∧ ∀ base : Heap, K.In base → base.Ns mainGlobals mg → FnOk l.prog w K mg base CX0 62 fa fd ["script"] (spLaw K) := by
  obtain ⟨f, fd, F, m, b⟩ := hL
  have e : fa = f := Value.ref.inj (Option.some.inj (hfa.symm.trans m))
  subst e
  obtain ⟨fp, fpd, FP, mp, bp⟩ := hP
  obtain ⟨q1, q2, q3, q4, q5, rest, hb, hc⟩ := body_law
  refine ⟨fd, ?_, fun base _ _ => ?_⟩
  · obtain ⟨oc, od, kV, doc, pm, an, cdv, ct, osl, rfl, lk, hcd⟩ := F.ex
    exact fun s v => .of_eq rfl
  · exact ok_law (G := G) (d := i_law) (k := 59) (j := 1) (fun p => ⟨hD, hB, cs_of hC p, hK⟩) (un_of nodup_defs) rfl rfl F (by kernel_rfl) (ok_pool FP mi ml) mp FP.kp bp hb (by kernel_rfl) (by kernel_rfl) (by kernel_rfl) (by kernel_rfl) (by kernel_rfl) hc law_plain
end Ip
open PySem PySem.W PyProof.Rows
set_option maxRecDepth 100000 in
set_option maxHeartbeats 0 in
theorem PySem.Challenge.cw_kindcounts_k06_whole_ranks_and_censuses_holds : PySem.Challenge.rw_kindcounts_k06_whole_ranks_and_censuses.Holds := by
  w_on; o_law; k_head; (case hw => w_witness2)
  k_fill
  refine Ip.walk (l := PySem.Challenge.rw_kindcounts_k06_whole_ranks_and_censuses) (k := 62) (by decide) rfl rfl (fun w h Y => PySem.W.kIn_of Y) ?F
  case F =>
    intro w mg fa h KX G hmg
    refine Ip.all_mk hmg ?d_law ?d__law_pool (List.forall_mem_cons.mpr ⟨?d_inner_of, (List.forall_mem_cons.mpr ⟨?d_rank_of, (List.forall_mem_cons.mpr ⟨?d_things_of, (List.forall_mem_cons.mpr ⟨?d_is_so, (List.forall_mem_cons.mpr ⟨?d_holds, (List.forall_mem_cons.mpr ⟨?d_renumbered, (List.forall_mem_cons.mpr ⟨?d_types_of, (List.forall_mem_cons.mpr ⟨?d_type_in, (List.forall_mem_cons.mpr ⟨?d_census_of, (List.forall_mem_cons.mpr ⟨?d_room_of, (List.forall_mem_cons.mpr ⟨?d__law_spread, (List.forall_mem_cons.mpr ⟨?d__law_draw, (List.forall_mem_cons.mpr ⟨?d__law_pick, (List.forall_mem_cons.mpr ⟨?d__law_formula, (List.forall_mem_cons.mpr ⟨?d__law_bound, (List.forall_mem_cons.mpr ⟨?d__law_inner, (List.forall_mem_cons.mpr ⟨?d__law_rank, (List.forall_mem_cons.mpr ⟨?d__law_sentence, (List.forall_mem_cons.mpr ⟨?d__law_subsets, (List.forall_mem_cons.mpr ⟨?d__law_types, (List.forall_mem_cons.mpr ⟨?d__law_census_room, (List.forall_mem_cons.mpr ⟨?d__law_things, (List.forall_mem_cons.mpr ⟨?d__law_so, (List.forall_mem_cons.mpr ⟨?d__law_holds, (List.forall_mem_cons.mpr ⟨?d__law_turn, (List.forall_mem_nil _)⟩)⟩)⟩)⟩)⟩)⟩)⟩)⟩)⟩)⟩)⟩)⟩)⟩)⟩)⟩)⟩)⟩)⟩)⟩)⟩)⟩)⟩)⟩)⟩)⟩) (List.forall_mem_cons.mpr ⟨?y_dict, (List.forall_mem_cons.mpr ⟨?y_int, (List.forall_mem_cons.mpr ⟨?y_len, (List.forall_mem_cons.mpr ⟨?y_list, (List.forall_mem_cons.mpr ⟨?y_max, (List.forall_mem_cons.mpr ⟨?y_min, (List.forall_mem_cons.mpr ⟨?y_range, (List.forall_mem_cons.mpr ⟨?y_sorted, (List.forall_mem_cons.mpr ⟨?y_sum, (List.forall_mem_cons.mpr ⟨?y_tuple, (List.forall_mem_cons.mpr ⟨?y_zip, (List.forall_mem_nil _)⟩)⟩)⟩)⟩)⟩)⟩)⟩)⟩)⟩)⟩)⟩) (List.forall_mem_nil _) (List.forall_mem_nil _) ?z_int ?z_list
    case d_law => refine' Ip.defAt KX G ?a_30 ?l_30 ?c_30 ?k_30 (fun _ _ _ _ _ _ us hl => match us, hl with | [_], _ => rfl); (case a_30 => k_is); (case l_30 => k_is); (case c_30 => k_is); (case k_30 => k_is)
    case d__law_pool => refine' Ip.defAt KX G ?a_14 ?l_14 ?c_14 ?k_14 (fun _ _ _ _ _ _ us hl => match us, hl with | [_], _ => rfl); (case a_14 => k_is); (case l_14 => k_is); (case c_14 => k_is); (case k_14 => k_is)
    case d_inner_of => refine' Ip.defAt KX G ?a_1 ?l_1 ?c_1 ?k_1 (fun _ _ _ _ _ _ us hl => match us, hl with | [_], _ => rfl); (case a_1 => k_is); (case l_1 => k_is); (case c_1 => k_is); (case k_1 => k_is)
    case d_rank_of => refine' Ip.defAt KX G ?a_2 ?l_2 ?c_2 ?k_2 (fun _ _ _ _ _ _ us hl => match us, hl with | [_], _ => rfl); (case a_2 => k_is); (case l_2 => k_is); (case c_2 => k_is); (case k_2 => k_is)
    case d_things_of => refine' Ip.defAt KX G ?a_4 ?l_4 ?c_4 ?k_4 (fun _ _ _ _ _ _ us hl => match us, hl with | [_, _], _ => rfl); (case a_4 => k_is); (case l_4 => k_is); (case c_4 => k_is); (case k_4 => k_is)
    case d_is_so => refine' Ip.defAt KX G ?a_5 ?l_5 ?c_5 ?k_5 (fun _ _ _ _ _ _ us hl => match us, hl with | [_, _, _], _ => rfl); (case a_5 => k_is); (case l_5 => k_is); (case c_5 => k_is); (case k_5 => k_is)
    case d_holds => refine' Ip.defAt KX G ?a_6 ?l_6 ?c_6 ?k_6 (fun _ _ _ _ _ _ us hl => match us, hl with | [_, _], _ => rfl); (case a_6 => k_is); (case l_6 => k_is); (case c_6 => k_is); (case k_6 => k_is)
    case d_renumbered => refine' Ip.defAt KX G ?a_7 ?l_7 ?c_7 ?k_7 (fun _ _ _ _ _ _ us hl => match us, hl with | [_, _], _ => rfl); (case a_7 => k_is); (case l_7 => k_is); (case c_7 => k_is); (case k_7 => k_is)
    case d_types_of => refine' Ip.defAt KX G ?a_9 ?l_9 ?c_9 ?k_9 (fun _ _ _ _ _ _ us hl => match us, hl with | [_], _ => rfl); (case a_9 => k_is); (case l_9 => k_is); (case c_9 => k_is); (case k_9 => k_is)
    case d_type_in => refine' Ip.defAt KX G ?a_10 ?l_10 ?c_10 ?k_10 (fun _ _ _ _ _ _ us hl => match us, hl with | [_, _, _], _ => rfl); (case a_10 => k_is); (case l_10 => k_is); (case c_10 => k_is); (case k_10 => k_is)
    case d_census_of => refine' Ip.defAt KX G ?a_11 ?l_11 ?c_11 ?k_11 (fun _ _ _ _ _ _ us hl => match us, hl with | [_, _, _], _ => rfl); (case a_11 => k_is); (case l_11 => k_is); (case c_11 => k_is); (case k_11 => k_is)
    case d_room_of => refine' Ip.defAt KX G ?a_12 ?l_12 ?c_12 ?k_12 (fun _ _ _ _ _ _ us hl => match us, hl with | [_, _], _ => rfl); (case a_12 => k_is); (case l_12 => k_is); (case c_12 => k_is); (case k_12 => k_is)
    case d__law_spread => refine' Ip.defAt KX G ?a_15 ?l_15 ?c_15 ?k_15 (fun _ _ _ _ _ _ us hl => match us, hl with | [_], _ => rfl); (case a_15 => k_is); (case l_15 => k_is); (case c_15 => k_is); (case k_15 => k_is)
    case d__law_draw => refine' Ip.defAt KX G ?a_16 ?l_16 ?c_16 ?k_16 (fun _ _ _ _ _ _ us hl => match us, hl with | [_, _], _ => rfl); (case a_16 => k_is); (case l_16 => k_is); (case c_16 => k_is); (case k_16 => k_is)
    case d__law_pick => refine' Ip.defAt KX G ?a_17 ?l_17 ?c_17 ?k_17 (fun _ _ _ _ _ _ us hl => match us, hl with | [_, _], _ => rfl); (case a_17 => k_is); (case l_17 => k_is); (case c_17 => k_is); (case k_17 => k_is)
    case d__law_formula => refine' Ip.defAt KX G ?a_18 ?l_18 ?c_18 ?k_18 (fun _ _ _ _ _ _ us hl => match us, hl with | [_, _, _, _], _ => rfl); (case a_18 => k_is); (case l_18 => k_is); (case c_18 => k_is); (case k_18 => k_is)
    case d__law_bound => refine' Ip.defAt KX G ?a_19 ?l_19 ?c_19 ?k_19 (fun _ _ _ _ _ _ us hl => match us, hl with | [_, _, _, _], _ => rfl); (case a_19 => k_is); (case l_19 => k_is); (case c_19 => k_is); (case k_19 => k_is)
    case d__law_inner => refine' Ip.defAt KX G ?a_20 ?l_20 ?c_20 ?k_20 (fun _ _ _ _ _ _ us hl => match us, hl with | [_], _ => rfl); (case a_20 => k_is); (case l_20 => k_is); (case c_20 => k_is); (case k_20 => k_is)
    case d__law_rank => refine' Ip.defAt KX G ?a_21 ?l_21 ?c_21 ?k_21 (fun _ _ _ _ _ _ us hl => match us, hl with | [_], _ => rfl); (case a_21 => k_is); (case l_21 => k_is); (case c_21 => k_is); (case k_21 => k_is)
    case d__law_sentence => refine' Ip.defAt KX G ?a_22 ?l_22 ?c_22 ?k_22 (fun _ _ _ _ _ _ us hl => match us, hl with | [_, _, _], _ => rfl); (case a_22 => k_is); (case l_22 => k_is); (case c_22 => k_is); (case k_22 => k_is)
    case d__law_subsets => refine' Ip.defAt KX G ?a_23 ?l_23 ?c_23 ?k_23 (fun _ _ _ _ _ _ us hl => match us, hl with | [_], _ => rfl); (case a_23 => k_is); (case l_23 => k_is); (case c_23 => k_is); (case k_23 => k_is)
    case d__law_types => refine' Ip.defAt KX G ?a_24 ?l_24 ?c_24 ?k_24 (fun _ _ _ _ _ _ us hl => match us, hl with | [_], _ => rfl); (case a_24 => k_is); (case l_24 => k_is); (case c_24 => k_is); (case k_24 => k_is)
    case d__law_census_room => refine' Ip.defAt KX G ?a_25 ?l_25 ?c_25 ?k_25 (fun _ _ _ _ _ _ us hl => match us, hl with | [_, _], _ => rfl); (case a_25 => k_is); (case l_25 => k_is); (case c_25 => k_is); (case k_25 => k_is)
    case d__law_things => refine' Ip.defAt KX G ?a_26 ?l_26 ?c_26 ?k_26 (fun _ _ _ _ _ _ us hl => match us, hl with | [_, _], _ => rfl); (case a_26 => k_is); (case l_26 => k_is); (case c_26 => k_is); (case k_26 => k_is)
    case d__law_so => refine' Ip.defAt KX G ?a_27 ?l_27 ?c_27 ?k_27 (fun _ _ _ _ _ _ us hl => match us, hl with | [_, _, _], _ => rfl); (case a_27 => k_is); (case l_27 => k_is); (case c_27 => k_is); (case k_27 => k_is)
    case d__law_holds => refine' Ip.defAt KX G ?a_28 ?l_28 ?c_28 ?k_28 (fun _ _ _ _ _ _ us hl => match us, hl with | [_, _], _ => rfl); (case a_28 => k_is); (case l_28 => k_is); (case c_28 => k_is); (case k_28 => k_is)
    case d__law_turn => refine' Ip.defAt KX G ?a_29 ?l_29 ?c_29 ?k_29 (fun _ _ _ _ _ _ us hl => match us, hl with | [_, _], _ => rfl); (case a_29 => k_is); (case l_29 => k_is); (case c_29 => k_is); (case k_29 => k_is)
    case y_dict => exact PySem.W.mg_none_of KX G (by k_is)
    case y_int => exact PySem.W.mg_none_of KX G (by k_is)
    case y_len => exact PySem.W.mg_none_of KX G (by k_is)
    case y_list => exact PySem.W.mg_none_of KX G (by k_is)
    case y_max => exact PySem.W.mg_none_of KX G (by k_is)
    case y_min => exact PySem.W.mg_none_of KX G (by k_is)
    case y_range => exact PySem.W.mg_none_of KX G (by k_is)
    case y_sorted => exact PySem.W.mg_none_of KX G (by k_is)
    case y_sum => exact PySem.W.mg_none_of KX G (by k_is)
    case y_tuple => exact PySem.W.mg_none_of KX G (by k_is)
    case y_zip => exact PySem.W.mg_none_of KX G (by k_is)
    case z_int => exact PySem.W.mg_none_of KX G (by k_is)
    case z_list => exact PySem.W.mg_none_of KX G (by k_is)

