import PyProof.Rows.All
import PySem.Challenge.RW_roundrows_k83_whole_circles_and_roots
import HandS.ForMost
import HandS.Wide
import HandS.WideMore
import HandS.NoneIn
import HandS.Deep
import HandS.TupAny
import HandS.TupMul
import HandS.Rev
import HandS.Conv
import HandS.Style
import HandS.IsInst
import HandS.Flow
import HandS.Zip
import HandS.Codes
import HandS.Iter
import HandS.Text
import HandS.SortInts
import PyProof.ReprRoads
import HandS.RevTup
import KE.KDictList
import PyProof.ReprBulk
import HandS.SetFor
set_option Elab.async false
set_option linter.all false
set_option maxRecDepth 100000
set_option maxHeartbeats 4000000
/-! PD, part 1: data, states, the relation to the abstract heap -/
namespace PD
open PySem PySem.Spec PyProof.Rows L2

/-- data as a Python value of the text, without the heap -/
inductive D where
  | non | bl (b : Bool) | int (i : Int) | str (x : Str)
  | lst (xs : List D) | tup (xs : List D) | dic (ks : List Key) (xs : List D)
  | ref (n : Nat) | rep (d : D) | fzl (xs : List D)
/-- an object that one slot alone holds -/
inductive OD where
  | lst (xs : List D) | dic (ks : List Key) (xs : List D)
def OD.d : OD → D
  | .lst xs => .lst xs
  | .dic ks xs => .dic ks xs
inductive Sl where
  | un | val (d : D) | own (o : OD)
abbrev En := List Sl
abbrev Sto := List (List D)
structure Ex where
  cls : Str
  args : List D
inductive Res (α : Type) where
  | ok (a : α) (e : En) (s : Sto) | exc (x : Ex) (e : En) (s : Sto) | bad
abbrev M (α : Type) := En → Sto → Res α

/-! ### data as the library's -/
mutual
def toPy : D → Option PyData
  | .non => some .none
  | .bl b => some (.bool b)
  | .int i => some (.int i)
  | .str x => some (.str x)
  | .lst xs => (toPyL xs).map .list
  | .tup xs => (toPyL xs).map .tuple
  | .fzl xs => (toPyL xs).map .list
  | .dic _ _ => none
  | .ref _ => none
  | .rep _ => none
def toPyL : List D → Option (List PyData)
  | [] => some []
  | d :: ds => match toPy d, toPyL ds with
    | some p, some ps => some (p :: ps)
    | _, _ => none
end

/-! ### the relation -/
mutual
inductive Rep (K : PySem.W.Frag) (F : Hp) (as : List Addr) : V → D → Prop
  | non : Rep K F as .non .non
  | bl (b : Bool) : Rep K F as (.bl b) (.bl b)
  | int (i : Int) : Rep K F as (.int i) (.int i)
  | str (x : Str) : Rep K F as (.str x) (.str x)
  | lst {a : Addr} {vs : List V} {xs : List D} : F a = some (.lst vs) → RepL K F as vs xs → Rep K F as (.ref a) (.lst xs)
  | fzl {a : Addr} {vs : List V} {xs : List D} : SqL K F a vs → RepL K F as vs xs → Rep K F as (.ref a) (.fzl xs)
  | tup {a : Addr} {vs : List V} {xs : List D} : SqT K F a vs → RepL K F as vs xs → Rep K F as (.ref a) (.tup xs)
  | dic {a : Addr} {kvs : List (Key × V)} {xs : List D} : F a = some (.dK kvs) → RepL K F as (kvs.map (·.2)) xs → Rep K F as (.ref a) (.dic (kvs.map (·.1)) xs)
  | ref {n : Nat} {a : Addr} : as[n]? = some a → Rep K F as (.ref a) (.ref n)
  | rep {d : D} {p : PyData} : toPy d = some p → Rep K F as (.str p.shown) (.rep d)
inductive RepL (K : PySem.W.Frag) (F : Hp) (as : List Addr) : List V → List D → Prop
  | nil : RepL K F as [] []
  | cons {v : V} {d : D} {vs : List V} {ds : List D} : Rep K F as v d → RepL K F as vs ds → RepL K F as (v :: vs) (d :: ds)
end

/-- F is within H -/
def Le (F H : Hp) : Prop := ∀ a o, F a = some o → H a = some o
theorem Le.refl (F : Hp) : Le F F := fun _ _ h => h
theorem Le.trans {F G H : Hp} (a : Le F G) (b : Le G H) : Le F H := fun x o h => b x o (a x o h)
theorem Le.seq {K : PySem.W.Frag} {F H : Hp} (e : Le F H) {a : Addr} {xs : List V} (h : SqL K F a xs) : SqL K H a xs := by
  rcases h with (h | ⟨o, h⟩) | h
  · exact .inl (.inl (e _ _ h))
  · exact .inl (.inr ⟨o, e _ _ h⟩)
  · exact .inr h
theorem Le.seqT {K : PySem.W.Frag} {F H : Hp} (e : Le F H) {a : Addr} {xs : List V} (h : SqT K F a xs) : SqT K H a xs := by
  rcases h with (h | ⟨o, h⟩) | h
  · exact .inl (.inl (e _ _ h))
  · exact .inl (.inr ⟨o, e _ _ h⟩)
  · exact .inr h
theorem Le.put {F : Hp} {p : Addr} {o : HO} (h : F p = none) : Le F (upd F p o) := fun a u e => by
  rw [upd_ne (ne_of_none e h)]
  exact e
theorem Le.put2 {F H : Hp} {p : Addr} {o : HO} (h : Le F H) : Le (upd F p o) (upd H p o) := fun a u e => by
  by_cases q : a = p
  · subst q
    rw [upd_same] at e ⊢
    exact e
  · rw [upd_ne q] at e ⊢
    exact h _ _ e
/-- a freeze: H has o at p -/
theorem Le.putIn {F H : Hp} {p : Addr} {o : HO} (h : Le F H) (e : H p = some o) : Le (upd F p o) H := fun a u q => by
  by_cases z : a = p
  · subst z
    rw [upd_same] at q
    rw [e]
    exact q
  · rw [upd_ne z] at q
    exact h _ _ q
theorem Le.none {F H : Hp} (h : Le F H) {p : Addr} (e : H p = none) : F p = none := by
  cases q : F p with
  | none => rfl
  | some o =>
    rw [h _ _ q] at e
    cases e

/-- more store addresses -/
def Pre (as as' : List Addr) : Prop := ∀ (n : Nat) (a : Addr), as[n]? = some a → as'[n]? = some a
theorem Pre.refl (as : List Addr) : Pre as as := fun _ _ h => h
theorem Pre.trans {a b c : List Addr} (h : Pre a b) (k : Pre b c) : Pre a c := fun n x e => k n x (h n x e)
theorem Pre.mem {as as' : List Addr} (h : Pre as as') {a : Addr} (m : a ∈ as) : a ∈ as' := by
  obtain ⟨n, e⟩ := List.mem_iff_getElem?.mp m
  exact List.mem_iff_getElem?.mpr ⟨n, h n a e⟩

section
variable {K : PySem.W.Frag} {F F' H : Hp} {as as' : List Addr}
mutual
theorem Rep.mono (hF : Le F F') (ha : Pre as as') : ∀ {d : D} {v : V}, Rep K F as v d → Rep K F' as' v d
  | .non, _, h => by cases h; exact .non
  | .bl _, _, h => by cases h; exact .bl _
  | .int _, _, h => by cases h; exact .int _
  | .str _, _, h => by cases h; exact .str _
  | .lst xs, _, h => by
    cases h with
    | lst h1 h2 => exact .lst (hF _ _ h1) (RepL.mono hF ha (ds := xs) h2)
  | .fzl xs, _, h => by
    cases h with
    | fzl h1 h2 => exact .fzl (hF.seq h1) (RepL.mono hF ha (ds := xs) h2)
  | .tup xs, _, h => by
    cases h with
    | tup h1 h2 => exact .tup (hF.seqT h1) (RepL.mono hF ha (ds := xs) h2)
  | .dic ks xs, _, h => by
    cases h with
    | dic h1 h2 => exact .dic (hF _ _ h1) (RepL.mono hF ha (ds := xs) h2)
  | .ref n, _, h => by
    cases h with
    | ref h => exact .ref (ha _ _ h)
  | .rep d, _, h => by
    cases h with
    | rep h => exact .rep h
theorem RepL.mono (hF : Le F F') (ha : Pre as as') : ∀ {ds : List D} {vs : List V}, RepL K F as vs ds → RepL K F' as' vs ds
  | [], _, h => by cases h; exact .nil
  | d :: ds, _, h => by
    cases h with
    | cons h1 h2 => exact .cons (Rep.mono hF ha (d := d) h1) (RepL.mono hF ha (ds := ds) h2)
end
mutual
theorem Rep.dp (hF : Le F H) : ∀ {d : D} {v : V} {p : PyData}, Rep K F as v d → toPy d = some p → Dp K H v p
  | .non, _, _, h, e => by cases h; cases e; exact .non
  | .bl _, _, _, h, e => by cases h; cases e; exact .bl _
  | .int _, _, _, h, e => by cases h; cases e; exact .int _
  | .str _, _, _, h, e => by cases h; cases e; exact .str _
  | .lst xs, _, _, h, e => by
    cases h with
    | lst h1 h2 =>
      rw [toPy] at e
      cases q : toPyL xs with
      | none => rw [q] at e; cases e
      | some ps =>
        rw [q] at e; cases e
        exact .lst (.inl (.inl (hF _ _ h1))) (RepL.dp hF (ds := xs) h2 q)
  | .fzl xs, _, _, h, e => by
    cases h with
    | fzl h1 h2 =>
      rw [toPy] at e
      cases q : toPyL xs with
      | none => rw [q] at e; cases e
      | some ps =>
        rw [q] at e; cases e
        exact .lst (hF.seq h1) (RepL.dp hF (ds := xs) h2 q)
  | .tup xs, _, _, h, e => by
    cases h with
    | tup h1 h2 =>
      rw [toPy] at e
      cases q : toPyL xs with
      | none => rw [q] at e; cases e
      | some ps =>
        rw [q] at e; cases e
        exact .tup (hF.seqT h1) (RepL.dp hF (ds := xs) h2 q)
  | .dic ks xs, _, _, h, e => by rw [toPy] at e; cases e
  | .ref n, _, _, h, e => by rw [toPy] at e; cases e
  | .rep d, _, _, h, e => by rw [toPy] at e; cases e
theorem RepL.dp (hF : Le F H) : ∀ {ds : List D} {vs : List V} {ps : List PyData}, RepL K F as vs ds → toPyL ds = some ps → DpAll K H vs ps
  | [], _, _, h, e => by cases h; rw [toPyL] at e; cases e; exact .nil
  | d :: ds, _, _, h, e => by
    cases h with
    | cons h1 h2 =>
      rw [toPyL] at e
      cases q1 : toPy d with
      | none => rw [q1] at e; cases e
      | some p =>
        cases q2 : toPyL ds with
        | none => rw [q1, q2] at e; cases e
        | some ps =>
          rw [q1, q2] at e; cases e
          exact .cons (Rep.dp hF (d := d) h1 q1) (RepL.dp hF (ds := ds) h2 q2)
end
theorem RepL.len : ∀ {vs : List V} {ds : List D}, RepL K F as vs ds → vs.length = ds.length
  | _, _, .nil => rfl
  | _, _, .cons _ h => congrArg (· + 1) h.len
theorem RepL.get : ∀ {vs : List V} {ds : List D} {i : Nat} {d : D}, RepL K F as vs ds → ds[i]? = some d → ∃ v, vs[i]? = some v ∧ Rep K F as v d
  | _, _, _, _, .nil, e => by simp at e
  | _, _, 0, _, .cons r _, e => by simp at e; subst e; exact ⟨_, rfl, r⟩
  | _, _, i + 1, d, .cons _ t, e => by
    obtain ⟨u, h1, h2⟩ := RepL.get (i := i) (d := d) t (by simpa using e)
    exact ⟨u, by simpa using h1, h2⟩
theorem RepL.getV : ∀ {vs : List V} {ds : List D} {i : Nat} {v : V}, RepL K F as vs ds → vs[i]? = some v → ∃ d, ds[i]? = some d ∧ Rep K F as v d
  | _, _, _, _, .nil, e => by simp at e
  | _, _, 0, _, .cons r _, e => by simp at e; subst e; exact ⟨_, rfl, r⟩
  | _, _, i + 1, d, .cons _ t, e => by
    obtain ⟨u, h1, h2⟩ := RepL.getV (i := i) (v := d) t (by simpa using e)
    exact ⟨u, by simpa using h1, h2⟩
theorem RepL.append : ∀ {vs ws : List V} {ds es : List D}, RepL K F as vs ds → RepL K F as ws es → RepL K F as (vs ++ ws) (ds ++ es)
  | _, _, _, _, .nil, h => h
  | _, _, _, _, .cons r t, h => .cons r (t.append h)
theorem RepL.drop : ∀ {vs : List V} {ds : List D} (n : Nat), RepL K F as vs ds → RepL K F as (vs.drop n) (ds.drop n)
  | _, _, 0, h => h
  | _, _, _ + 1, .nil => .nil
  | _, _, n + 1, .cons _ t => RepL.drop n t
theorem RepL.take : ∀ {vs : List V} {ds : List D} (n : Nat), RepL K F as vs ds → RepL K F as (vs.take n) (ds.take n)
  | _, _, 0, _ => .nil
  | _, _, _ + 1, .nil => .nil
  | _, _, n + 1, .cons r t => .cons r (RepL.take n t)
theorem RepL.set {v : V} {d : D} (r : Rep K F as v d) : ∀ {vs : List V} {ds : List D} (i : Nat), RepL K F as vs ds → RepL K F as (vs.set i v) (ds.set i d)
  | _, _, _, .nil => .nil
  | _, _, 0, .cons _ t => .cons r t
  | _, _, i + 1, .cons q t => .cons q (RepL.set r i t)
theorem RepL.eraseIdx : ∀ {vs : List V} {ds : List D} (i : Nat), RepL K F as vs ds → RepL K F as (vs.eraseIdx i) (ds.eraseIdx i)
  | _, _, _, .nil => .nil
  | _, _, 0, .cons _ t => t
  | _, _, i + 1, .cons q t => .cons q (RepL.eraseIdx i t)
theorem RepL.reverse {vs : List V} {ds : List D} (h : RepL K F as vs ds) : RepL K F as vs.reverse ds.reverse := by
  match h with
  | .nil => exact .nil
  | .cons r t =>
    rw [List.reverse_cons, List.reverse_cons]
    exact t.reverse.append (.cons r .nil)
theorem RepL.rep {vs : List V} {ds : List D} (h : RepL K F as vs ds) : ∀ n : Nat, RepL K F as (List.replicate n vs).flatten (List.replicate n ds).flatten
  | 0 => .nil
  | n + 1 => by
    rw [List.replicate_succ, List.replicate_succ, List.flatten_cons, List.flatten_cons]
    exact h.append (h.rep n)
theorem RepL.ints {vs : List V} {ds : List D} {ns : List Int} (h : RepL K F as vs ds) (e : ds = ns.map D.int) : vs = ns.map V.int := by
  subst e
  induction ns generalizing vs with
  | nil => cases h; rfl
  | cons n r ih =>
    cases h with
    | cons h1 h2 => cases h1; rw [ih h2]; rfl
end
end PD
/-! PD, part 2: states and readings -/
namespace PD
open PySem PySem.Spec PyProof.Rows L2

inductive RepO (K : PySem.W.Frag) (F : Hp) (as : List Addr) : HO → OD → Prop
  | lst {vs : List V} {xs : List D} : RepL K F as vs xs → RepO K F as (.lst vs) (.lst xs)
  | dic {kvs : List (Key × V)} {xs : List D} : RepL K F as (kvs.map (·.2)) xs → RepO K F as (.dK kvs) (.dic (kvs.map (·.1)) xs)
theorem RepO.mono {K : PySem.W.Frag} {F F' : Hp} {as as' : List Addr} {ho : HO} {o : OD} (hF : Le F F') (ha : Pre as as') (h : RepO K F as ho o) : RepO K F' as' ho o := by
  cases h with
  | lst h => exact .lst (h.mono hF ha)
  | dic h => exact .dic (h.mono hF ha)

structure Rel (K : PySem.W.Frag) (N : Addr → Prop) (F : Hp) (as : List Addr) (env : En) (st : Sto) (σ : L2.St) (H : Hp) : Prop where
  sub : Le F H
  len : env.length = σ.length
  val : ∀ (i : Nat) (d : D), env[i]? = some (.val d) → ∃ v, σ[i]? = some (some v) ∧ Rep K F as v d
  own : ∀ (i : Nat) (o : OD), env[i]? = some (.own o) → ∃ p ho, σ[i]? = some (some (.ref p)) ∧ H p = some ho ∧ RepO K F as ho o ∧ F p = none ∧ p ∉ as ∧ ¬ N p ∧
    ∀ (j : Nat) (o' : OD), env[j]? = some (.own o') → σ[j]? = some (some (.ref p)) → j = i
  slen : as.length = st.length
  sto : ∀ (n : Nat) (xs : List D), st[n]? = some xs → ∃ a vs, as[n]? = some a ∧ H a = some (.lst vs) ∧ RepL K (fun _ => none) as vs xs
  snd : as.Nodup
  sfr : ∀ a ∈ as, F a = none
  out : ∀ a, N a → F a = none ∧ a ∉ as ∧ ∃ o, H a = some o

/-- kept through an expression: all but the store's cells; new cells are new -/
structure Kp (as as' : List Addr) (H H' : Hp) : Prop where
  keep : ∀ a o, H a = some o → a ∉ as → H' a = some o
  new : ∀ a ∈ as', a ∉ as → H a = none
theorem Kp.refl (as : List Addr) (H : Hp) : Kp as as H H := ⟨fun _ _ h _ => h, fun _ h k => absurd h k⟩
theorem Kp.trans {as as1 as2 : List Addr} {H H1 H2 : Hp} (p : Pre as as1) (a : Kp as as1 H H1) (b : Kp as1 as2 H1 H2) : Kp as as2 H H2 := by
  have nw : ∀ x o, H x = some o → x ∉ as → x ∉ as1 := fun x o h k m => by
    rw [a.new x m k] at h
    cases h
  refine ⟨fun x o h k => b.keep x o (a.keep x o h k) (nw x o h k), fun x m k => ?_⟩
  by_cases q : x ∈ as1
  · exact a.new x q k
  · have := b.new x m q
    cases e : H x with
    | none => rfl
    | some o =>
      rw [a.keep x o e k] at this
      cases this
theorem Kp.put {as : List Addr} {H : Hp} {p : Addr} {o : HO} (h : H p = none) : Kp as as H (upd H p o) :=
  ⟨fun a u e _ => Le.put h a u e, fun _ h k => absurd h k⟩

structure Cc where
  K : PySem.W.Frag
  W : Value → Option Addr → L2.St → Hp → Prop
  XR : Hp → List Addr → Hp → Ex → Value → Option Addr → Prop

def Post {α : Type} (c : Cc) (N : Addr → Prop) (F : Hp) (as : List Addr) (σ : L2.St) (H : Hp) (r : Res α) (P : α → En → Sto → Hp → List Addr → Hp → Prop) : Prop :=
  match r with
  | .ok a env st => ∀ F' as' H', Rel c.K N F' as' env st σ H' → Le F F' → Pre as as' → Kp as as' H H' → P a env st F' as' H'
  | .exc x env st => ∀ F' as' H' cls dx, Rel c.K N F' as' env st σ H' → Le F F' → Pre as as' → Kp as as' H H' → c.XR F' as' H' x cls dx → c.W cls dx σ H'
  | .bad => False

def bnd {α β : Type} (m : M α) (k : α → M β) : M β := fun e s => match m e s with
  | .ok a e s => k a e s
  | .exc x e s => .exc x e s
  | .bad => .bad
def ret {α : Type} (a : α) : M α := fun e s => .ok a e s
def opt {α : Type} : Option α → M α
  | some a => ret a
  | none => fun _ _ => .bad

section
variable {α β : Type} {c : Cc} {N : Addr → Prop} {F F' : Hp} {as as' : List Addr} {env : En} {st : Sto} {σ : L2.St} {H H' : Hp}
theorem Post.mono {r : Res α} {P P' : α → En → Sto → Hp → List Addr → Hp → Prop} (h : Post c N F as σ H r P)
    (k : ∀ a env st F' as' H', Rel c.K N F' as' env st σ H' → Le F F' → Pre as as' → Kp as as' H H' → P a env st F' as' H' → P' a env st F' as' H') : Post c N F as σ H r P' := by
  cases r with
  | ok a e s => exact fun F' as' H' r1 r2 r3 r4 => k a e s F' as' H' r1 r2 r3 r4 (h F' as' H' r1 r2 r3 r4)
  | exc x e s => exact h
  | bad => exact h
theorem Post.rebase {r : Res α} {P : α → En → Sto → Hp → List Addr → Hp → Prop} (h : Post c N F as σ H r P) (hF : Le F F') (ha : Pre as as') (hK : Kp as as' H H') : Post c N F' as' σ H' r P := by
  cases r with
  | ok a e s => exact fun F2 as2 H2 r1 r2 r3 r4 => h F2 as2 H2 r1 (hF.trans r2) (ha.trans r3) (hK.trans ha r4)
  | exc x e s => exact fun F2 as2 H2 cls dx r1 r2 r3 r4 => h F2 as2 H2 cls dx r1 (hF.trans r2) (ha.trans r3) (hK.trans ha r4)
  | bad => exact h
theorem Post.bind {m : M α} {k : α → M β} {P : β → En → Sto → Hp → List Addr → Hp → Prop} (h : Post c N F as σ H (bnd m k env st) P) :
    Post c N F as σ H (m env st) fun a env1 st1 F1 as1 H1 => Post c N F1 as1 σ H1 (k a env1 st1) P := by
  unfold bnd at h
  cases e : m env st with
  | ok a e s =>
    rw [e] at h
    exact fun F1 as1 H1 r1 r2 r3 r4 => h.rebase r2 r3 r4
  | exc x e s => rw [e] at h; exact h
  | bad => rw [e] at h; exact h
/-- the end of a chain -/
theorem Post.here {a : α} {P : α → En → Sto → Hp → List Addr → Hp → Prop} (h : Post c N F as σ H (ret a env st) P) (r : Rel c.K N F as env st σ H) : P a env st F as H :=
  h F as H r (Le.refl _) (Pre.refl _) (Kp.refl _ _)

theorem Rel.alloc (r : Rel c.K N F as env st σ H) {p : Addr} {o : HO} (h : H p = none) : Rel c.K N F as env st σ (upd H p o) where
  sub := r.sub.trans (Le.put h)
  len := r.len
  val := r.val
  own := fun i od e => by
    obtain ⟨q, ho, h1, h2, h3⟩ := r.own i od e
    exact ⟨q, ho, h1, Le.put h _ _ h2, h3⟩
  slen := r.slen
  sto := fun n xs e => by
    obtain ⟨a, vs, h1, h2, h3⟩ := r.sto n xs e
    exact ⟨a, vs, h1, Le.put h _ _ h2, h3⟩
  snd := r.snd
  sfr := r.sfr
  out := fun a n => by
    obtain ⟨h1, h2, o', h3⟩ := r.out a n
    exact ⟨h1, h2, o', Le.put h _ _ h3⟩
theorem Rel.freeze (r : Rel c.K N F as env st σ H) {p : Addr} {o : HO} (h : H p = some o) (ha : p ∉ as) (hN : ¬ N p) (ho : ∀ (j : Nat) (o' : OD), env[j]? = some (.own o') → σ[j]? ≠ some (some (.ref p))) (hF : F p = none) :
    Rel c.K N (upd F p o) as env st σ H where
  sub := r.sub.putIn h
  len := r.len
  val := fun i d e => by
    obtain ⟨v, h1, h2⟩ := r.val i d e
    exact ⟨v, h1, h2.mono (Le.put hF) (Pre.refl _)⟩
  own := fun i od e => by
    obtain ⟨q, ho', h1, h2, h3, h4, h5, h6⟩ := r.own i od e
    refine ⟨q, ho', h1, h2, h3.mono (Le.put hF) (Pre.refl _), ?_, h5, h6⟩
    rw [upd_ne (fun z => ho i od e (by rw [h1, z]))]
    exact h4
  slen := r.slen
  sto := r.sto
  snd := r.snd
  sfr := fun a m => by
    rw [upd_ne (show a ≠ p from fun z => ha (z ▸ m))]
    exact r.sfr a m
  out := fun a n => by
    obtain ⟨h1, h2, h3⟩ := r.out a n
    refine ⟨?_, h2, h3⟩
    rw [upd_ne (show a ≠ p from fun z => hN (z ▸ n))]
    exact h1
/-- a new address is nobody's -/
theorem Rel.fresh (r : Rel c.K N F as env st σ H) {p : Addr} (h : H p = none) : F p = none ∧ p ∉ as ∧ ¬ N p ∧ ∀ (j : Nat) (o' : OD), env[j]? = some (.own o') → σ[j]? ≠ some (some (.ref p)) := by
  refine ⟨r.sub.none h, fun m => ?_, fun n => ?_, fun j o' e z => ?_⟩
  · obtain ⟨n, e⟩ := List.mem_iff_getElem?.mp m
    have hn : n < st.length := by
      rw [← r.slen]
      exact (List.getElem?_eq_some_iff.mp e).1
    obtain ⟨a, vs, h1, h2, _⟩ := r.sto n _ (List.getElem?_eq_getElem hn)
    rw [e] at h1
    cases h1
    rw [h] at h2
    cases h2
  · obtain ⟨_, _, o, e⟩ := r.out p n
    rw [h] at e
    cases e
  · obtain ⟨q, ho, h1, h2, _⟩ := r.own j o' e
    rw [h1] at z
    cases z
    rw [h] at h2
    cases h2
/-- a new object, frozen at once -/
theorem Rel.lay (r : Rel c.K N F as env st σ H) {p : Addr} {o : HO} (h : H p = none) : Rel c.K N (upd F p o) as env st σ (upd H p o) :=
  let ⟨h1, h2, h3, h4⟩ := r.fresh h
  (r.alloc (o := o) h).freeze upd_same h2 h3 h4 h1
end

/-! ### the readings -/
/-- a value that is borrowed: its top may be an object that is not frozen -/
def RepB (K : PySem.W.Frag) (F : Hp) (as : List Addr) (H : Hp) (v : V) (d : D) : Prop :=
  Rep K F as v d ∨ ∃ p ho o, v = .ref p ∧ d = OD.d o ∧ H p = some ho ∧ p ∉ as ∧ RepO K F as ho o
inductive RepBL (K : PySem.W.Frag) (F : Hp) (as : List Addr) (H : Hp) : List V → List D → Prop
  | nil : RepBL K F as H [] []
  | cons {v : V} {d : D} {vs : List V} {ds : List D} : RepB K F as H v d → RepBL K F as H vs ds → RepBL K F as H (v :: vs) (d :: ds)
theorem RepB.mono {K : PySem.W.Frag} {F F' H H' : Hp} {as as' : List Addr} {v : V} {d : D} (hF : Le F F') (ha : Pre as as') (hK : Kp as as' H H') (h : RepB K F as H v d) : RepB K F' as' H' v d := by
  rcases h with h | ⟨p, ho, o, h1, h2, h3, h4, h5⟩
  · exact .inl (h.mono hF ha)
  · refine .inr ⟨p, ho, o, h1, h2, hK.keep _ _ h3 h4, fun m => ?_, h5.mono hF ha⟩
    rw [hK.new p m h4] at h3
    cases h3
theorem RepBL.mono {K : PySem.W.Frag} {F F' H H' : Hp} {as as' : List Addr} (hF : Le F F') (ha : Pre as as') (hK : Kp as as' H H') : ∀ {vs : List V} {ds : List D}, RepBL K F as H vs ds → RepBL K F' as' H' vs ds
  | _, _, .nil => .nil
  | _, _, .cons h t => .cons (h.mono hF ha hK) (RepBL.mono hF ha hK t)

/-- what a value is at one moment: a cell of the store counts as its list -/
def RepC (K : PySem.W.Frag) (F : Hp) (as : List Addr) (H : Hp) (v : V) (d : D) : Prop :=
  Rep K F as v d ∨ ∃ p ho o, v = .ref p ∧ d = OD.d o ∧ H p = some ho ∧ RepO K F as ho o
inductive RepCL (K : PySem.W.Frag) (F : Hp) (as : List Addr) (H : Hp) : List V → List D → Prop
  | nil : RepCL K F as H [] []
  | cons {v : V} {d : D} {vs : List V} {ds : List D} : RepC K F as H v d → RepCL K F as H vs ds → RepCL K F as H (v :: vs) (d :: ds)
/-- a cell of the store as its list -/
def dr (s : Sto) : D → D
  | .ref n => match s[n]? with
    | some xs => .lst xs
    | none => .ref n
  | d => d
def drL (s : Sto) : List D → List D
  | [] => []
  | d :: ds => dr s d :: drL s ds
theorem dr_rep {K : PySem.W.Frag} {N : Addr → Prop} {F : Hp} {as : List Addr} {env : En} {st : Sto} {σ : L2.St} {H : Hp} (r : Rel K N F as env st σ H) {v : V} {d : D} (h : RepB K F as H v d) : RepC K F as H v (dr st d) := by
  have gen : dr st d = d → RepC K F as H v (dr st d) := fun e => by
    rw [e]
    rcases h with h | ⟨p, ho, o, h1, h2, h3, _, h5⟩
    · exact .inl h
    · exact .inr ⟨p, ho, o, h1, h2, h3, h5⟩
  cases d with
  | ref n =>
    cases e : st[n]? with
    | none => exact gen (by simp [dr, e])
    | some xs =>
      obtain ⟨a, vs, k1, k2, k3⟩ := r.sto n xs e
      have hv : v = .ref a := by
        rcases h with h | ⟨p, ho, o, h1, h2, h3, _, h5⟩
        · cases h with
          | ref h => rw [k1] at h; cases h; rfl
        · cases o <;> cases h2
      have e2 : dr st (.ref n) = .lst xs := by simp [dr, e]
      rw [e2]
      exact .inr ⟨a, _, .lst xs, hv, rfl, k2, .lst (k3.mono (fun _ _ z => by cases z) (Pre.refl _))⟩
  | _ => exact gen rfl
theorem drL_rep {K : PySem.W.Frag} {N : Addr → Prop} {F : Hp} {as : List Addr} {env : En} {st : Sto} {σ : L2.St} {H : Hp} (r : Rel K N F as env st σ H) : ∀ {vs : List V} {ds : List D}, RepBL K F as H vs ds → RepCL K F as H vs (drL st ds)
  | _, _, .nil => .nil
  | _, _, .cons h t => .cons (dr_rep r h) (drL_rep r t)

inductive PR where
  | fro (d : D) | new (o : OD)
def PR.d : PR → D
  | .fro d => d
  | .new o => o.d
def RepP (K : PySem.W.Frag) (N : Addr → Prop) (F : Hp) (as : List Addr) (env : En) (σ : L2.St) (H : Hp) (v : V) : PR → Prop
  | .fro d => Rep K F as v d
  | .new o => ∃ p ho, v = .ref p ∧ H p = some ho ∧ RepO K F as ho o ∧ F p = none ∧ p ∉ as ∧ ¬ N p ∧ ∀ (j : Nat) (o' : OD), env[j]? = some (.own o') → σ[j]? ≠ some (some (.ref p))

def tE (c : Cc) (m : M D) : TE := fun σ H Q => ∃ N F as env st, Rel c.K N F as env st σ H ∧ Post c N F as σ H (m env st) fun d _ _ F' as' H' => ∀ v, Rep c.K F' as' v d → Q v H'
def tB (c : Cc) (m : M D) : TE := fun σ H Q => ∃ N F as env st, Rel c.K N F as env st σ H ∧ Post c N F as σ H (m env st) fun d _ _ F' as' H' => ∀ v, RepB c.K F' as' H' v d → Q v H'
def tP (c : Cc) (m : M PR) : TE := fun σ H Q => ∃ N F as env st, Rel c.K N F as env st σ H ∧ Post c N F as σ H (m env st) fun d env' _ F' as' H' => ∀ v, RepP c.K N F' as' env' σ H' v d → Q v H'
def tT (c : Cc) (m : M Bool) : TT := fun σ H Q => ∃ N F as env st, Rel c.K N F as env st σ H ∧ Post c N F as σ H (m env st) fun d _ _ F' as' H' => Q d H'
def tA (c : Cc) (m : M (List D)) : TA := fun σ H Q => ∃ N F as env st, Rel c.K N F as env st σ H ∧ Post c N F as σ H (m env st) fun d _ _ F' as' H' => ∀ v, RepL c.K F' as' v d → Q v H'
def tAB (c : Cc) (m : M (List D)) : TA := fun σ H Q => ∃ N F as env st, Rel c.K N F as env st σ H ∧ Post c N F as σ H (m env st) fun d _ _ F' as' H' => ∀ v, RepBL c.K F' as' H' v d → Q v H'

theorem _root_.L2.PE.imp {X : Cx} {e : Expr} {t t' : TE} (h : PE X e t) (k : ∀ σ H Q, t' σ H Q → t σ H Q) : PE X e t' := ⟨fun pins s σ H Q I q => h.run pins s σ H Q I (k _ _ _ q)⟩
theorem _root_.L2.PT.imp {X : Cx} {e : Expr} {t t' : TT} (h : PT X e t) (k : ∀ σ H Q, t' σ H Q → t σ H Q) : PT X e t' := ⟨fun pins s σ H Q I q => h.run pins s σ H Q I (k _ _ _ q)⟩
theorem _root_.L2.PW.imp {X : Cx} {e : Expr} {t t' : TT} (h : PW X e t) (k : ∀ σ H Q, t' σ H Q → t σ H Q) : PW X e t' := ⟨fun wh pins s σ H Q I q => h.run wh pins s σ H Q I (k _ _ _ q)⟩
theorem _root_.L2.PA.imp {X : Cx} {e : List Expr} {t t' : TA} (h : PA X e t) (k : ∀ σ H Q, t' σ H Q → t σ H Q) : PA X e t' := ⟨fun pos pins s σ H Q I q => h.run pos pins s σ H Q I (k _ _ _ q)⟩
theorem _root_.L2.PK.imp {X : Cx} {e : List Keyword} {t t' : TA} (h : PK X e t) (k : ∀ σ H Q, t' σ H Q → t σ H Q) : PK X e t' := ⟨fun pos pins s σ H Q I q => h.run pos pins s σ H Q I (k _ _ _ q)⟩
theorem _root_.L2.PS.imp {X : Cx} {e : Stmt} {t t' : TS} (h : PS X e t) (k : ∀ D σ H, t' D σ H → t D σ H) : PS X e t' := ⟨fun pins s σ H D I q => h.run pins s σ H D I (k _ _ _ q)⟩
theorem _root_.L2.PSs.imp {X : Cx} {e : List Stmt} {t t' : TS} (h : PSs X e t) (k : ∀ D σ H, t' D σ H → t D σ H) : PSs X e t' := ⟨fun pins s σ H D I q => h.run pins s σ H D I (k _ _ _ q)⟩
theorem _root_.L2.PG.imp {X : Cx} {e : Expr} {t t' : TG} (h : PG X e t) (k : ∀ v σ H Q, t' v σ H Q → t v σ H Q) : PG X e t' := ⟨fun pins s σ H v u Q I r q => h.run pins s σ H v u Q I r (k _ _ _ _ q)⟩
theorem _root_.L2.PI.imp {X : Cx} {tg e : Expr} {t t' : TI} (h : PI X tg e t) (k : ∀ σ H R, t' σ H R → t σ H R) : PI X tg e t' := ⟨fun pins s σ H R I q => h.run pins s σ H R I (k _ _ _ q)⟩

section
variable {c : Cc} {σ : L2.St} {H : Hp} {Q : VK}
theorem tE_tB {m : M D} (h : tB c m σ H Q) : tE c m σ H Q := by
  obtain ⟨N, F, as, env, st, r, p⟩ := h
  exact ⟨N, F, as, env, st, r, p.mono fun d e s F' as' H' _ _ _ _ k v q => k v (.inl q)⟩
def fro (d : D) : M PR := ret (.fro d)
def up (m : M D) : M PR := bnd m fro
theorem tP_up {m : M D} (h : tP c (up m) σ H Q) : tE c m σ H Q := by
  obtain ⟨N, F, as, env, st, r, p⟩ := h
  exact ⟨N, F, as, env, st, r, (Post.bind p).mono fun d e s F' as' H' r' _ _ _ k v q => (Post.here k r') v q⟩
def frz (p : PR) : M D := ret p.d
/-- frozen -/
def fz (m : M PR) : M D := bnd m frz
theorem tE_fz {m : M PR} (h : tE c (fz m) σ H Q) : tP c m σ H Q := by
  obtain ⟨N, F, as, env, st, r, p⟩ := h
  refine ⟨N, F, as, env, st, r, (Post.bind p).mono fun d e s F' as' H' r' _ _ _ k v q => ?_⟩
  cases d with
  | fro d => exact (Post.here k r') v q
  | new o =>
    obtain ⟨p, ho, rfl, h1, h2, h3, h4, h5, h6⟩ := q
    refine k (upd F' p ho) as' H' (r'.freeze h1 h4 h5 h6 h3) (Le.put h3) (Pre.refl _) (Kp.refl _ _) (.ref p) ?_
    have hp := Le.put (o := ho) h3
    cases h2 with
    | lst h2 => exact .lst upd_same (h2.mono hp (Pre.refl _))
    | dic h2 => exact .dic upd_same (h2.mono hp (Pre.refl _))

/-! names and constants -/
def eVar (i : Nat) : M D := fun e s => match e[i]? with
  | some (.val d) => .ok d e s
  | some (.own o) => .ok o.d (e.set i (.val o.d)) s
  | _ => .bad
def bVar (i : Nat) : M D := fun e s => match e[i]? with
  | some (.val d) => .ok d e s
  | some (.own o) => .ok o.d e s
  | _ => .bad
theorem get_set {α : Type} {l : List α} {i j : Nat} {a b : α} (h : (l.set i a)[j]? = some b) : (j = i ∧ b = a) ∨ (j ≠ i ∧ l[j]? = some b) := by
  by_cases q : i = j
  · subst q
    by_cases z : i < l.length
    · rw [List.getElem?_set_self z] at h
      exact .inl ⟨rfl, (Option.some.inj h).symm⟩
    · rw [List.getElem?_eq_none (by simpa using z)] at h
      cases h
  · rw [List.getElem?_set_ne q] at h
    exact .inr ⟨fun z => q z.symm, h⟩
theorem Rel.froz {N : Addr → Prop} {F : Hp} {as : List Addr} {env : En} {st : Sto} {i : Nat} {o : OD} (r : Rel c.K N F as env st σ H) (e : env[i]? = some (.own o)) :
    ∃ p ho, σ[i]? = some (some (.ref p)) ∧ H p = some ho ∧ F p = none ∧ p ∉ as ∧ Rel c.K N (upd F p ho) as (env.set i (.val o.d)) st σ H ∧ Rep c.K (upd F p ho) as (.ref p) o.d := by
  obtain ⟨p, ho, h1, h2, h3, h4, h5, h6, h7⟩ := r.own i o e
  have hp := Le.put (o := ho) h4
  have hr : Rep c.K (upd F p ho) as (.ref p) o.d := by
    cases h3 with
    | lst h3 => exact .lst upd_same (h3.mono hp (Pre.refl _))
    | dic h3 => exact .dic upd_same (h3.mono hp (Pre.refl _))
  refine ⟨p, ho, h1, h2, h4, h5, ⟨r.sub.putIn h2, ?_, fun j d q => ?_, fun j od q => ?_, r.slen, r.sto, r.snd, fun a m => ?_, fun a n => ?_⟩, hr⟩
  · rw [List.length_set]; exact r.len
  · rcases get_set q with ⟨rfl, z⟩ | ⟨_, q⟩
    · cases z
      exact ⟨_, h1, hr⟩
    · obtain ⟨v, k1, k2⟩ := r.val j d q
      exact ⟨v, k1, k2.mono hp (Pre.refl _)⟩
  · rcases get_set q with ⟨_, z⟩ | ⟨nj, q⟩
    · cases z
    · obtain ⟨p', ho', k1, k2, k3, k4, k5, k6, k7⟩ := r.own j od q
      refine ⟨p', ho', k1, k2, k3.mono hp (Pre.refl _), ?_, k5, k6, fun j' o' q' z => ?_⟩
      · rw [upd_ne (fun z => nj (h7 j od q (by rw [k1, z])))]
        exact k4
      · rcases get_set q' with ⟨_, z'⟩ | ⟨_, q'⟩
        · cases z'
        · exact k7 j' o' q' z
  · rw [upd_ne (show a ≠ p from fun z => h5 (z ▸ m))]
    exact r.sfr a m
  · obtain ⟨k1, k2, k3⟩ := r.out a n
    refine ⟨?_, k2, k3⟩
    rw [upd_ne (show a ≠ p from fun z => h6 (z ▸ n))]
    exact k1
theorem tE_var {i : Nat} (h : tE c (eVar i) σ H Q) : tVar i σ H Q := by
  obtain ⟨N, F, as, env, st, r, p⟩ := h
  unfold eVar at p
  cases e : env[i]? with
  | none => rw [e] at p; exact p.elim
  | some sl =>
    rw [e] at p
    cases sl with
    | un => exact p.elim
    | val d =>
      obtain ⟨v, h1, h2⟩ := r.val i d e
      exact ⟨v, h1, p F as H r (Le.refl _) (Pre.refl _) (Kp.refl _ _) v h2⟩
    | own o =>
      obtain ⟨q, ho, h1, h2, h3, h4, h5, h6⟩ := r.froz e
      exact ⟨_, h1, p _ as H h5 (Le.put h3) (Pre.refl _) (Kp.refl _ _) _ h6⟩
theorem tB_var {i : Nat} (h : tB c (bVar i) σ H Q) : tVar i σ H Q := by
  obtain ⟨N, F, as, env, st, r, p⟩ := h
  unfold bVar at p
  cases e : env[i]? with
  | none => rw [e] at p; exact p.elim
  | some sl =>
    rw [e] at p
    cases sl with
    | un => exact p.elim
    | val d =>
      obtain ⟨v, h1, h2⟩ := r.val i d e
      exact ⟨v, h1, p F as H r (Le.refl _) (Pre.refl _) (Kp.refl _ _) v (.inl h2)⟩
    | own o =>
      obtain ⟨q, ho, h1, h2, h3, h4, h5, h6, _⟩ := r.own i o e
      exact ⟨_, h1, p F as H r (Le.refl _) (Pre.refl _) (Kp.refl _ _) _ (.inr ⟨q, ho, o, rfl, rfl, h2, h5, h3⟩)⟩
theorem tE_con {d : D} {v : V} (hv : ∀ F as, Rep c.K F as v d) (h : tE c (ret d) σ H Q) : tC v σ H Q := by
  obtain ⟨N, F, as, env, st, r, p⟩ := h
  exact (Post.here p r) v (hv F as)

/-! argument lists -/
def aNil : M (List D) := ret []
def aCons (m : M D) (t : M (List D)) : M (List D) := bnd m fun d => bnd t fun ds => ret (d :: ds)
theorem tA_nil {QA : List V → Hp → Prop} (h : tA c aNil σ H QA) : tNil σ H QA := by
  obtain ⟨N, F, as, env, st, r, p⟩ := h
  exact (Post.here p r) [] .nil
theorem tAB_nil {QA : List V → Hp → Prop} (h : tAB c aNil σ H QA) : tNil σ H QA := by
  obtain ⟨N, F, as, env, st, r, p⟩ := h
  exact (Post.here p r) [] .nil
theorem tA_cons {m : M D} {t : M (List D)} {QA : List V → Hp → Prop} (h : tA c (aCons m t) σ H QA) : tCons (tE c m) (tA c t) σ H QA := by
  obtain ⟨N, F, as, env, st, r, p⟩ := h
  refine ⟨N, F, as, env, st, r, (Post.bind p).mono fun d e s F1 as1 H1 r1 l1 p1 k1 q1 v hv => ?_⟩
  refine ⟨N, F1, as1, e, s, r1, (Post.bind q1).mono fun ds e s F2 as2 H2 r2 l2 p2 k2 q2 vs hvs => ?_⟩
  exact (Post.here q2 r2) (v :: vs) (.cons (hv.mono l2 p2) hvs)
theorem tAB_cons {m : M D} {t : M (List D)} {QA : List V → Hp → Prop} (h : tAB c (aCons m t) σ H QA) : tCons (tB c m) (tAB c t) σ H QA := by
  obtain ⟨N, F, as, env, st, r, p⟩ := h
  refine ⟨N, F, as, env, st, r, (Post.bind p).mono fun d e s F1 as1 H1 r1 l1 p1 k1 q1 v hv => ?_⟩
  refine ⟨N, F1, as1, e, s, r1, (Post.bind q1).mono fun ds e s F2 as2 H2 r2 l2 p2 k2 q2 vs hvs => ?_⟩
  exact (Post.here q2 r2) (v :: vs) (.cons (hv.mono l2 p2 k2) hvs)
end
end PD
/-! PD, part 3: operations by values -/
namespace PD
open PySem PySem.Spec PyProof.Rows L2

/-- what an operation gives: something that stands, a new object, a tuple (new or not) -/
inductive PV where
  | fro (d : D) | new (o : OD) | tup (xs : List D)
def Wants (K : PySem.W.Frag) (F : Hp) (as : List Addr) (H : Hp) (Q : VK) : Option PV → Prop
  | some (.fro d) => ∀ v, Rep K F as v d → Q v H
  | some (.new o) => ∀ p ho, H p = none → RepO K F as ho o → Q (.ref p) (upd H p ho)
  | some (.tup xs) => (∀ p us, H p = none → RepL K F as us xs → Q (.ref p) (upd H p (.tup us))) ∧ ∀ v, Rep K F as v (.tup xs) → Q v H
  | none => False
def PureN (K : PySem.W.Frag) (r : List V → Hp → VK → Prop) (f : List D → Option PV) : Prop :=
  ∀ F as H vs ds Q, Le F H → RepCL K F as H vs ds → Wants K F as H Q (f ds) → r vs H Q
def Pure1 (K : PySem.W.Frag) (r : V → Hp → VK → Prop) (f : D → Option PV) : Prop :=
  ∀ F as H x a Q, Le F H → RepC K F as H x a → Wants K F as H Q (f a) → r x H Q
def Pure2 (K : PySem.W.Frag) (r : R2) (f : D → D → Option PV) : Prop :=
  ∀ F as H x y a b Q, Le F H → RepC K F as H x a → RepC K F as H y b → Wants K F as H Q (f a b) → r x y H Q
def pv : Option PV → M PR
  | some (.fro d) => ret (.fro d)
  | some (.new o) => ret (.new o)
  | some (.tup xs) => ret (.fro (.tup xs))
  | none => fun _ _ => .bad
section
variable {c : Cc} {N : Addr → Prop} {F : Hp} {as : List Addr} {env : En} {st : Sto} {σ : L2.St} {H : Hp} {Q : VK}
theorem wants_of {o : Option PV} (r : Rel c.K N F as env st σ H) (p : Post c N F as σ H (pv o env st) fun d env' _ F' as' H' => ∀ v, RepP c.K N F' as' env' σ H' v d → Q v H') : Wants c.K F as H Q o := by
  match o, p with
  | some (.fro d), p => exact fun v q => (Post.here p r) v q
  | some (.new o), p =>
    intro p' ho hp q
    obtain ⟨h1, h2, h3, h4⟩ := r.fresh hp
    exact p F as _ (r.alloc hp) (Le.refl _) (Pre.refl _) (Kp.put hp) (.ref p') ⟨p', ho, rfl, upd_same, q, h1, h2, h3, h4⟩
  | some (.tup xs), p =>
    refine ⟨fun p' us hp q => ?_, fun v q => (Post.here p r) v q⟩
    obtain ⟨h1, h2, h3, h4⟩ := r.fresh hp
    exact p (upd F p' (.tup us)) as _ (r.lay hp) (Le.put h1) (Pre.refl _) (Kp.put hp) (.ref p') (.tup (.inl (.inl upd_same)) (q.mono (Le.put h1) (Pre.refl _)))
  | none, p => exact p
def pvN (f : List D → Option PV) (ds : List D) : M PR := fun e s => pv (f (drL s ds)) e s
def pv1 (f : D → Option PV) (a : D) : M PR := fun e s => pv (f (dr s a)) e s
def pv2 (f : D → D → Option PV) (a b : D) : M PR := fun e s => pv (f (dr s a) (dr s b)) e s
def mOpN (f : List D → Option PV) (m : M (List D)) : M PR := bnd m (pvN f)
def mOp1 (f : D → Option PV) (m : M D) : M PR := bnd m (pv1 f)
def mOp2 (f : D → D → Option PV) (m n : M D) : M PR := bnd m fun a => bnd n (pv2 f a)
theorem tP_opN {r : List V → Hp → VK → Prop} {f : List D → Option PV} {m : M (List D)} (hr : PureN c.K r f) (h : tP c (mOpN f m) σ H Q) : tAB c m σ H fun vs H1 => r vs H1 Q := by
  obtain ⟨N, F, as, env, st, r, p⟩ := h
  exact ⟨N, F, as, env, st, r, (Post.bind p).mono fun ds e s F1 as1 H1 r1 _ _ _ q vs hv => hr F1 as1 H1 vs _ Q r1.sub (drL_rep r1 hv) (wants_of r1 q)⟩
theorem tP_op1 {r : V → Hp → VK → Prop} {f : D → Option PV} {m : M D} (hr : Pure1 c.K r f) (h : tP c (mOp1 f m) σ H Q) : tB c m σ H fun vs H1 => r vs H1 Q := by
  obtain ⟨N, F, as, env, st, r, p⟩ := h
  exact ⟨N, F, as, env, st, r, (Post.bind p).mono fun ds e s F1 as1 H1 r1 _ _ _ q vs hv => hr F1 as1 H1 vs _ Q r1.sub (dr_rep r1 hv) (wants_of r1 q)⟩
theorem tP_op2 {r : R2} {f : D → D → Option PV} {m n : M D} (hr : Pure2 c.K r f) (h : tP c (mOp2 f m n) σ H Q) : tB c m σ H fun x H1 => tB c n σ H1 fun y H2 => r x y H2 Q := by
  obtain ⟨N, F, as, env, st, r, p⟩ := h
  refine ⟨N, F, as, env, st, r, (Post.bind p).mono fun a e s F1 as1 H1 r1 _ _ _ q x hx => ?_⟩
  exact ⟨N, F1, as1, e, s, r1, (Post.bind q).mono fun b e s F2 as2 H2 r2 l2 p2 k2 q y hy => hr F2 as2 H2 x y _ _ Q r2.sub (dr_rep r2 (hx.mono l2 p2 k2)) (dr_rep r2 hy) (wants_of r2 q)⟩
end

section
variable {K : PySem.W.Frag} {F : Hp} {as : List Addr} {H : Hp}
theorem RepC.int {v : V} {i : Int} (h : RepC K F as H v (.int i)) : v = .int i := by
  rcases h with h | ⟨p, ho, o, _, h, _⟩
  · cases h; rfl
  · cases o <;> cases h
theorem RepC.bl {v : V} {i : Bool} (h : RepC K F as H v (.bl i)) : v = .bl i := by
  rcases h with h | ⟨p, ho, o, _, h, _⟩
  · cases h; rfl
  · cases o <;> cases h
theorem RepC.str {v : V} {i : Str} (h : RepC K F as H v (.str i)) : v = .str i := by
  rcases h with h | ⟨p, ho, o, _, h, _⟩
  · cases h; rfl
  · cases o <;> cases h
theorem RepC.non {v : V} (h : RepC K F as H v .non) : v = .non := by
  rcases h with h | ⟨p, ho, o, _, h, _⟩
  · cases h; rfl
  · cases o <;> cases h
theorem RepC.lst {v : V} {xs : List D} (hs : Le F H) (h : RepC K F as H v (.lst xs)) : ∃ a vs, v = .ref a ∧ H a = some (.lst vs) ∧ RepL K F as vs xs := by
  rcases h with h | ⟨p, ho, o, rfl, h, h2, h3⟩
  · cases h with
    | lst h1 h2 => exact ⟨_, _, rfl, hs _ _ h1, h2⟩
  · cases h3 with
    | lst h3 => cases h; exact ⟨_, _, rfl, h2, h3⟩
    | dic h3 => cases h
theorem RepC.fzl {v : V} {xs : List D} (hs : Le F H) (h : RepC K F as H v (.fzl xs)) : ∃ a vs, v = .ref a ∧ SqL K H a vs ∧ RepL K F as vs xs := by
  rcases h with h | ⟨p, ho, o, rfl, h, h2, h3⟩
  · cases h with
    | fzl h1 h2 => exact ⟨_, _, rfl, hs.seq h1, h2⟩
  · cases o <;> cases h
theorem RepC.tup {v : V} {xs : List D} (hs : Le F H) (h : RepC K F as H v (.tup xs)) : ∃ a vs, v = .ref a ∧ SqT K H a vs ∧ RepL K F as vs xs := by
  rcases h with h | ⟨p, ho, o, rfl, h, h2, h3⟩
  · cases h with
    | tup h1 h2 => exact ⟨_, _, rfl, hs.seqT h1, h2⟩
  · cases o <;> cases h
theorem RepC.dic {v : V} {ks : List Key} {xs : List D} (hs : Le F H) (h : RepC K F as H v (.dic ks xs)) : ∃ a kvs, v = .ref a ∧ H a = some (.dK kvs) ∧ kvs.map (·.1) = ks ∧ RepL K F as (kvs.map (·.2)) xs := by
  rcases h with h | ⟨p, ho, o, rfl, h, h2, h3⟩
  · cases h with
    | dic h1 h2 => exact ⟨_, _, rfl, hs _ _ h1, rfl, h2⟩
  · cases h3 with
    | lst h3 => cases h
    | dic h3 => cases h; exact ⟨_, _, rfl, h2, rfl, h3⟩
theorem RepC.dp {v : V} {d : D} {p : PyData} (hs : Le F H) (h : RepC K F as H v d) (e : toPy d = some p) : Dp K H v p := by
  rcases h with h | ⟨a, ho, o, rfl, rfl, h2, h3⟩
  · exact h.dp hs e
  · cases h3 with
    | @lst vs xs h3 =>
      rw [OD.d, toPy] at e
      cases q : toPyL xs with
      | none => rw [q] at e; cases e
      | some ps =>
        rw [q] at e; cases e
        exact .lst (.inl (.inl h2)) (h3.dp hs q)
    | dic h3 => rw [OD.d, toPy] at e; cases e
theorem wif {Q : VK} {k : Prop} [Decidable k] {o : Option PV} (w : Wants K F as H Q (if k then o else none)) : k ∧ Wants K F as H Q o := by
  by_cases h : k
  · rw [if_pos h] at w; exact ⟨h, w⟩
  · rw [if_neg h] at w; exact False.elim w
theorem wif2 {Q : VK} {k : Prop} [Decidable k] {o o' : Option PV} (w : Wants K F as H Q (if k then o else o')) : (k ∧ Wants K F as H Q o) ∨ (¬ k ∧ Wants K F as H Q o') := by
  by_cases h : k
  · rw [if_pos h] at w; exact .inl ⟨h, w⟩
  · rw [if_neg h] at w; exact .inr ⟨h, w⟩
theorem Wants.fro {Q : VK} {d : D} {v : V} (w : Wants K F as H Q (some (.fro d))) (r : Rep K F as v d) : Q v H := w v r
end

/-! ### operations on numbers -/
def pI (i : Int) : Option PV := some (.fro (.int i))
def pB (b : Bool) : Option PV := some (.fro (.bl b))
def dSub : D → D → Option PV
  | .int i, .int j => pI (i - j)
  | _, _ => none
def dMod : D → D → Option PV
  | .int i, .int j => if j ≠ 0 then pI (i.fmod j) else none
  | _, _ => none
def divOk (j : Int) : Bool := decide (0 < j) && decide (j < 1000000000000000000000000000000000000000000000000000000000000)
def dDiv : D → D → Option PV
  | .int i, .int j => if divOk j then pI (i / j) else if j < 0 ∧ -1073741824 < j then pI (i.fdiv j) else none
  | _, _ => none
def smallI (i : Int) : Bool := decide (-18446744073709551616 < i) && decide (i < 18446744073709551616)
def midI (i : Int) : Bool := decide (-(2 ^ 4000) < i) && decide (i < 2 ^ 4000)
def mulOk (i j : Int) : Bool := smallI i || smallI j || (midI i && midI j)
def dPow : D → D → Option PV
  | .int i, .int j => if 0 ≤ j ∧ j ≤ 100000 ∧ smallI i then pI (i ^ j.toNat) else none
  | _, _ => none
def repL (k : Int) (xs : List D) : List D := (List.replicate k.toNat xs).flatten
def dMul : D → D → Option PV
  | .int i, .int j => if mulOk i j then pI (i * j) else none
  | .lst xs, .int k => if -100000 ≤ k ∧ k ≤ 100000 ∧ xs.length ≤ 100 then some (.new (.lst (repL k xs))) else none
  | .tup xs, .int k => if xs.isEmpty = false ∧ 2 ≤ k ∧ k ≤ 1000 ∧ xs.length ≤ 1000 then some (.tup (repL k xs)) else none
  | _, _ => none
@[irreducible] def lim : Nat := 10000000
def dAdd : D → D → Option PV
  | .int i, .int j => pI (i + j)
  | .str x, .str y => if x.length + y.length ≤ lim then some (.fro (.str (x ++ y))) else none
  | .lst xs, .lst ys => if xs.length + ys.length ≤ lim then some (.new (.lst (xs ++ ys))) else none
  | .tup xs, .tup ys => if xs.length + ys.length ≤ lim then some (.tup (xs ++ ys)) else none
  | _, _ => none
def dLt : D → D → Option PV
  | .int i, .int j => pB (decide (i < j))
  | _, _ => none
def dLe : D → D → Option PV
  | .int i, .int j => pB (decide (i ≤ j))
  | _, _ => none
def dGt : D → D → Option PV
  | .int i, .int j => pB (decide (j < i))
  | _, _ => none
def dGe : D → D → Option PV
  | .int i, .int j => pB (decide (j ≤ i))
  | _, _ => none
theorem lim_ok {n : Nat} (h : n ≤ lim) : n ≤ sizeLine := Nat.le_trans h (by unfold lim; decide)

section
variable {X : Cx}
theorem o_sub : Pure2 X.K (rI0 fun i j => .int (i - j)) dSub := by
  intro F as H x y a b Q l hx hy w
  match a, b, hx, hy, w with
  | .int i, .int j, hx, hy, w => exact ⟨i, j, hx.int, hy.int, w _ (.int _)⟩
theorem o_mod : Pure2 X.K (rI (fun _ j => j ≠ 0) fun i j => .int (i.fmod j)) dMod := by
  intro F as H x y a b Q l hx hy w
  match a, b, hx, hy, w with
  | .int i, .int j, hx, hy, w =>
    obtain ⟨h, w⟩ := wif w
    exact ⟨i, j, hx.int, hy.int, h, w _ (.int _)⟩
theorem log2_lt {n k : Nat} (hk : 0 < k) (h : n < 2 ^ k) : n.log2 < k := by
  by_cases z : n = 0
  · subst z; exact hk
  · exact (Nat.log2_lt z).mpr h
theorem o_div : Pure2 X.K (fun x y H Q => rI CDivW (fun i j => .int (i / j)) x y H Q ∨ rI CDivN (fun i j => .int (i.fdiv j)) x y H Q) dDiv := by
  intro F as H x y a b Q l hx hy w
  match a, b, hx, hy, w with
  | .int i, .int j, hx, hy, w =>
    rcases wif2 w with ⟨h, w⟩ | ⟨_, w⟩
    · unfold divOk at h
      simp only [Bool.and_eq_true, decide_eq_true_eq] at h
      refine .inl ⟨i, j, hx.int, hy.int, ⟨h.1, ?_⟩, w _ (.int _)⟩
      refine Nat.lt_of_lt_of_le (log2_lt (k := 200) (by decide) ?_) (by decide)
      have e : (2 : Nat) ^ 200 = 1606938044258990275541962092341162602522202993782792835301376 := by decide
      rw [e]
      omega
    · obtain ⟨h, w⟩ := wif w
      exact .inr ⟨i, j, hx.int, hy.int, ⟨by omega, by omega⟩, w _ (.int _)⟩
theorem small_of {i : Int} (h : smallI i = true) : -(2 ^ 64) < i ∧ i < 2 ^ 64 := by
  unfold smallI at h
  simp only [Bool.and_eq_true, decide_eq_true_eq] at h
  exact ⟨by omega, by omega⟩
theorem mid_of {i : Int} (h : midI i = true) : i.natAbs.log2 < 4000 := by
  unfold midI at h
  simp only [Bool.and_eq_true, decide_eq_true_eq] at h
  refine log2_lt (by decide) ?_
  have e : ((2 ^ 4000 : Nat) : Int) = (2 : Int) ^ 4000 := by
    rw [Int.natCast_pow]; rfl
  generalize (2 : Nat) ^ 4000 = m at *
  rw [← e] at h
  omega
theorem o_mulI : ∀ {i j : Int}, mulOk i j = true → CMul i j ∨ CMulW i j := by
  intro i j h
  unfold mulOk at h
  simp only [Bool.or_eq_true, Bool.and_eq_true] at h
  rcases h with (h | h) | h
  · exact .inl (.inl (small_of h))
  · exact .inl (.inr (small_of h))
  · refine .inr ?_
    unfold CMulW
    have a := mid_of h.1
    have b := mid_of h.2
    omega
theorem o_pow : Pure2 X.K (rI CPow fun i j => .int (i ^ j.toNat)) dPow := by
  intro F as H x y a b Q l hx hy w
  match a, b, hx, hy, w with
  | .int i, .int j, hx, hy, w =>
    obtain ⟨h, w⟩ := wif w
    have q := small_of h.2.2
    exact ⟨i, j, hx.int, hy.int, ⟨h.1, by omega, by omega⟩, w _ (.int _)⟩
theorem o_lt : Pure2 X.K (rI0 fun i j => .bl (decide (i < j))) dLt := by
  intro F as H x y a b Q l hx hy w
  match a, b, hx, hy, w with
  | .int i, .int j, hx, hy, w => exact ⟨i, j, hx.int, hy.int, w _ (.bl _)⟩
theorem o_le : Pure2 X.K (rI0 fun i j => .bl (decide (i ≤ j))) dLe := by
  intro F as H x y a b Q l hx hy w
  match a, b, hx, hy, w with
  | .int i, .int j, hx, hy, w => exact ⟨i, j, hx.int, hy.int, w _ (.bl _)⟩
theorem o_gt : Pure2 X.K (rI0 fun i j => .bl (decide (j < i))) dGt := by
  intro F as H x y a b Q l hx hy w
  match a, b, hx, hy, w with
  | .int i, .int j, hx, hy, w => exact ⟨i, j, hx.int, hy.int, w _ (.bl _)⟩
theorem o_ge : Pure2 X.K (rI0 fun i j => .bl (decide (j ≤ i))) dGe := by
  intro F as H x y a b Q l hx hy w
  match a, b, hx, hy, w with
  | .int i, .int j, hx, hy, w => exact ⟨i, j, hx.int, hy.int, w _ (.bl _)⟩
end
end PD
/-! PD, part 4: operations on sequences, equality, membership -/
namespace PD
open PySem PySem.Spec PyProof.Rows L2

mutual
def beqD : D → D → Bool
  | .non, .non => true
  | .bl a, .bl b => a == b
  | .int i, .int j => decide (i = j)
  | .str x, .str y => decide (x = y)
  | .lst xs, .lst ys => beqDL xs ys
  | .tup xs, .tup ys => beqDL xs ys
  | _, _ => false
def beqDL : List D → List D → Bool
  | [], [] => true
  | x :: xs, y :: ys => beqD x y && beqDL xs ys
  | _, _ => false
end
mutual
theorem beqD_eq : ∀ {a b : D}, beqD a b = true → a = b
  | .non, b, h => by cases b <;> first | rfl | (simp [beqD] at h)
  | .bl x, b, h => by cases b <;> simp [beqD] at h; rw [h]
  | .int x, b, h => by cases b <;> simp [beqD] at h; rw [h]
  | .str x, b, h => by cases b <;> simp [beqD] at h; rw [h]
  | .lst xs, b, h => by cases b <;> simp [beqD] at h; rw [beqDL_eq h]
  | .tup xs, b, h => by cases b <;> simp [beqD] at h; rw [beqDL_eq h]
  | .dic _ _, b, h => by simp [beqD] at h
  | .ref _, b, h => by simp [beqD] at h
  | .rep _, b, h => by simp [beqD] at h
  | .fzl _, b, h => by simp [beqD] at h
theorem beqDL_eq : ∀ {a b : List D}, beqDL a b = true → a = b
  | [], b, h => by cases b <;> first | rfl | (simp [beqDL] at h)
  | x :: xs, b, h => by
    cases b with
    | nil => simp [beqDL] at h
    | cons y ys =>
      simp only [beqDL, Bool.and_eq_true] at h
      rw [beqD_eq h.1, beqDL_eq h.2]
end
-- plain data: what repr and == are asked of
mutual
def plain : D → Bool
  | .non => true
  | .bl _ => true
  | .int _ => true
  | .str _ => true
  | .lst xs => plainL xs
  | .tup xs => plainL xs
  | _ => false
def plainL : List D → Bool
  | [] => true
  | x :: xs => plain x && plainL xs
end
mutual
theorem beqD_refl : ∀ {a : D}, plain a = true → beqD a a = true
  | .non, h => rfl
  | .bl x, h => by simp [beqD]
  | .int x, h => by simp [beqD]
  | .str x, h => by simp [beqD]
  | .lst xs, h => by rw [beqD]; rw [plain] at h; exact beqDL_refl h
  | .tup xs, h => by rw [beqD]; rw [plain] at h; exact beqDL_refl h
  | .dic _ _, h => by simp [plain] at h
  | .ref _, h => by simp [plain] at h
  | .rep _, h => by simp [plain] at h
  | .fzl _, h => by simp [plain] at h
theorem beqDL_refl : ∀ {a : List D}, plainL a = true → beqDL a a = true
  | [], h => rfl
  | x :: xs, h => by
    simp only [plainL, Bool.and_eq_true] at h
    rw [beqDL, beqD_refl h.1, beqDL_refl h.2]; rfl
end

def okEq (p q : PyData) : Bool := SeqAt.shaped p && SeqAt.shaped q
def eqGen (f : Bool → Bool) (a b : D) : Option PV :=
  match toPy a, toPy b with
  | some p, some q => if okEq p q then pB (f (PyData.eqv p q)) else none
  | _, _ => none
def dEq : D → D → Option PV
  | .int i, .int j => pB (decide (i = j))
  | .str x, .str y => pB (decide (x = y))
  | .rep a, .rep b => if beqD a b then pB true else none
  | a, b => eqGen id a b
def dNe : D → D → Option PV
  | .int i, .int j => pB (!decide (i = j))
  | .str x, .str y => pB (!decide (x = y))
  | .rep a, .rep b => if beqD a b then pB false else none
  | a, b => eqGen not a b
section
variable {X : Cx}
theorem dec_int (i j : Int) : decide (V.int i = V.int j) = decide (i = j) := by
  by_cases h : i = j
  · subst h; simp
  · rw [decide_eq_false h, decide_eq_false (fun e => h (V.int.inj e))]
theorem dec_str (i j : Str) : decide (V.str i = V.str j) = decide (i = j) := by
  by_cases h : i = j
  · subst h; simp
  · rw [decide_eq_false h, decide_eq_false (fun e => h (V.str.inj e))]
theorem eqGen_some {f : Bool → Bool} {K : PySem.W.Frag} {F : Hp} {as : List Addr} {H : Hp} {Q : VK} {a b : D} (w : Wants K F as H Q (eqGen f a b)) :
    ∃ p q, toPy a = some p ∧ toPy b = some q ∧ SeqAt.shaped p = true ∧ SeqAt.shaped q = true ∧ Q (.bl (f (PyData.eqv p q))) H := by
  unfold eqGen at w
  cases e1 : toPy a with
  | none => rw [e1] at w; exact w.elim
  | some p =>
    cases e2 : toPy b with
    | none => rw [e1, e2] at w; exact w.elim
    | some q =>
      rw [e1, e2] at w
      obtain ⟨h, w⟩ := wif w
      unfold okEq at h
      rw [Bool.and_eq_true] at h
      exact ⟨p, q, rfl, rfl, h.1, h.2, w _ (.bl _)⟩
theorem RepC.rep {K : PySem.W.Frag} {F : Hp} {as : List Addr} {H : Hp} {v : V} {d : D} (h : RepC K F as H v (.rep d)) : ∃ p, v = .str p.shown ∧ toPy d = some p := by
  rcases h with h | ⟨p, ho, o, _, h, _⟩
  · cases h with
    | rep h => exact ⟨_, rfl, h⟩
  · cases o <;> cases h
theorem o_eq : Pure2 X.K (fun x y H Q => rEq x y H Q ∨ rEqD X.K x y H Q) dEq := by
  intro F as H x y a b Q l hx hy w
  have gen : Wants X.K F as H Q (eqGen id a b) → rEqD X.K x y H Q := fun w => by
    obtain ⟨p, q, h1, h2, h3, h4, h5⟩ := eqGen_some w
    exact ⟨p, q, hx.dp l h1, hy.dp l h2, h3, h4, h5⟩
  unfold dEq at w
  split at w
  · refine .inl ?_
    rw [hx.int, hy.int]
    refine ⟨rfl, ?_⟩
    rw [dec_int]
    exact w _ (.bl _)
  · refine .inl ?_
    rw [hx.str, hy.str]
    refine ⟨rfl, ?_⟩
    rw [dec_str]
    exact w _ (.bl _)
  · obtain ⟨h, w2⟩ := wif w
    have e := beqD_eq h
    subst e
    obtain ⟨p, rfl, h1⟩ := hx.rep
    obtain ⟨q, rfl, h2⟩ := hy.rep
    rw [h1] at h2
    cases h2
    refine .inl ⟨rfl, ?_⟩
    rw [decide_eq_true rfl]
    exact w2 _ (.bl _)
  · exact .inr (gen w)
theorem o_ne : Pure2 X.K (fun x y H Q => rNe x y H Q ∨ rNeD X.K x y H Q) dNe := by
  intro F as H x y a b Q l hx hy w
  have gen : Wants X.K F as H Q (eqGen not a b) → rNeD X.K x y H Q := fun w => by
    obtain ⟨p, q, h1, h2, h3, h4, h5⟩ := eqGen_some w
    exact ⟨p, q, hx.dp l h1, hy.dp l h2, h3, h4, h5⟩
  unfold dNe at w
  split at w
  · refine .inl ?_
    rw [hx.int, hy.int]
    refine ⟨rfl, ?_⟩
    rw [dec_int]
    exact w _ (.bl _)
  · refine .inl ?_
    rw [hx.str, hy.str]
    refine ⟨rfl, ?_⟩
    rw [dec_str]
    exact w _ (.bl _)
  · obtain ⟨h, w2⟩ := wif w
    have e := beqD_eq h
    subst e
    obtain ⟨p, rfl, h1⟩ := hx.rep
    obtain ⟨q, rfl, h2⟩ := hy.rep
    rw [h1] at h2
    cases h2
    refine .inl ⟨rfl, ?_⟩
    rw [decide_eq_true rfl]
    exact w2 _ (.bl _)
  · exact .inr (gen w)

/-! is, is not -/
def isNon : D → Bool
  | .non => true
  | _ => false
def dIs : D → D → Option PV
  | a, .non => pB (isNon a)
  | .bl a, .bl b => pB (decide (a = b))
  | _, _ => none
def dIsNot : D → D → Option PV
  | a, .non => pB (!isNon a)
  | .bl a, .bl b => pB (!decide (a = b))
  | _, _ => none
theorem non_iff {K : PySem.W.Frag} {F : Hp} {as : List Addr} {H : Hp} {v : V} {d : D} (h : RepC K F as H v d) : decide (v = .non) = isNon d := by
  rcases h with h | ⟨p, ho, o, rfl, rfl, _⟩
  · cases h <;> rfl
  · cases o <;> rfl
def rIs : R2 := fun x y H Q => (y = .non ∧ Q (.bl (decide (x = .non))) H) ∨ ∃ a b : Bool, x = .bl a ∧ y = .bl b ∧ Q (.bl (decide (a = b))) H
def rIsNot : R2 := fun x y H Q => (y = .non ∧ Q (.bl (!decide (x = .non))) H) ∨ ∃ a b : Bool, x = .bl a ∧ y = .bl b ∧ Q (.bl (!decide (a = b))) H
theorem o_is : Pure2 X.K rIs dIs := by
  intro F as H x y a b Q l hx hy w
  unfold dIs at w
  split at w
  · refine .inl ⟨hy.non, ?_⟩
    rw [non_iff hx]
    exact w _ (.bl _)
  · exact .inr ⟨_, _, hx.bl, hy.bl, w _ (.bl _)⟩
  · exact w.elim
theorem o_isnot : Pure2 X.K rIsNot dIsNot := by
  intro F as H x y a b Q l hx hy w
  unfold dIsNot at w
  split at w
  · refine .inl ⟨hy.non, ?_⟩
    rw [non_iff hx]
    exact w _ (.bl _)
  · exact .inr ⟨_, _, hx.bl, hy.bl, w _ (.bl _)⟩
  · exact w.elim
theorem op_is2 : OpR X (compareOp .Is) rIs := OpR.or op_isN op_isBl
theorem op_isnot2 : OpR X (compareOp .IsNot) rIsNot := OpR.or op_notN op_notBl

/-! + and * -/
def rAddA (K : PySem.W.Frag) : R2 := fun x y H Q => rI0 (fun i j => .int (i + j)) x y H Q ∨ (∃ i j, x = .str i ∧ y = .str j ∧ i.length + j.length ≤ sizeLine ∧ Q (.str (i ++ j)) H) ∨ rCat x y H Q ∨ rCatA K x y H Q
theorem op_addA : OpR X (binaryOp .Add) (rAddA X.K) := OpR.or op_add (OpR.or op_add_str (OpR.or op_cat op_catA))
theorem o_add : Pure2 X.K (rAddA X.K) dAdd := by
  intro F as H x y a b Q l hx hy w
  match a, b, hx, hy, w with
  | .int i, .int j, hx, hy, w => exact .inl ⟨i, j, hx.int, hy.int, w _ (.int _)⟩
  | .str i, .str j, hx, hy, w =>
    obtain ⟨h, w⟩ := wif w
    exact .inr (.inl ⟨i, j, hx.str, hy.str, lim_ok h, w _ (.str _)⟩)
  | .lst xs, .lst ys, hx, hy, w =>
    obtain ⟨h, w⟩ := wif w
    obtain ⟨p, vs, rfl, h1, h2⟩ := hx.lst l
    obtain ⟨q, us, rfl, h3, h4⟩ := hy.lst l
    refine .inr (.inr (.inl ⟨p, q, vs, us, rfl, rfl, h1, h3, ?_, fun z hz => w z _ hz (.lst (h2.append h4))⟩))
    rw [h2.len, h4.len]
    exact lim_ok h
  | .tup xs, .tup ys, hx, hy, w =>
    obtain ⟨h, w⟩ := wif w
    have hx' := hx.tup l
    have hy' := hy.tup l
    obtain ⟨p, vs, rfl, h1, h2⟩ := hx'
    obtain ⟨q, us, rfl, h3, h4⟩ := hy'
    refine .inr (.inr (.inr ⟨p, q, vs, us, rfl, rfl, h1, h3, ?_, fun e => ?_, fun _ e => ?_, fun _ _ z hz => w.1 z _ hz (h2.append h4)⟩))
    · rw [h2.len, h4.len]
      exact lim_ok h
    · subst e
      have : xs = [] := by cases h2; rfl
      subst this
      rcases hy with hy | ⟨_, _, o, _, e, _⟩
      · exact w.2 _ hy
      · cases o <;> cases e
    · subst e
      have : ys = [] := by cases h4; rfl
      subst this
      rw [List.append_nil] at w
      rcases hx with hx | ⟨_, _, o, _, e, _⟩
      · exact w.2 _ hx
      · cases o <;> cases e
def rMulA (K : PySem.W.Frag) : R2 := fun x y H Q => rI CMul (fun i j => .int (i * j)) x y H Q ∨ rI CMulW (fun i j => .int (i * j)) x y H Q ∨ rRep x y H Q ∨ rRepT K x y H Q
theorem op_mulA : OpR X (binaryOp .Mult) (rMulA X.K) := OpR.or op_mul (OpR.or op_mulW (OpR.or op_rep op_repT))
theorem o_mul : Pure2 X.K (rMulA X.K) dMul := by
  intro F as H x y a b Q l hx hy w
  match a, b, hx, hy, w with
  | .int i, .int j, hx, hy, w =>
    obtain ⟨h, w⟩ := wif w
    rcases o_mulI h with h | h
    · exact .inl ⟨i, j, hx.int, hy.int, h, w _ (.int _)⟩
    · exact .inr (.inl ⟨i, j, hx.int, hy.int, h, w _ (.int _)⟩)
  | .lst xs, .int k, hx, hy, w =>
    obtain ⟨⟨k1, k2, k3⟩, w⟩ := wif w
    obtain ⟨p, vs, rfl, h1, h2⟩ := hx.lst l
    refine .inr (.inr (.inl ⟨p, k, vs, rfl, hy.int, h1, by omega, by omega, ?_, fun z hz => w z _ hz (.lst (h2.rep _))⟩))
    rw [h2.len]
    have a1 : xs.length * k.toNat ≤ 100 * 100000 := Nat.mul_le_mul k3 (by omega)
    exact Nat.le_trans a1 (by decide)
  | .tup xs, .int k, hx, hy, w =>
    obtain ⟨⟨k0, k1, k2, k3⟩, w⟩ := wif w
    obtain ⟨p, vs, rfl, h1, h2⟩ := hx.tup l
    refine .inr (.inr (.inr ⟨p, k, vs, rfl, hy.int, h1, ?_, k1, k2, by rw [h2.len]; exact k3, fun z hz => w.1 z _ hz (h2.rep _)⟩))
    intro e
    subst e
    cases h2
    cases k0

/-! items and slices -/
def dIx : D → D → Option PV
  | .lst xs, .int i => (atI xs i).map .fro
  | .fzl xs, .int i => (atI xs i).map .fro
  | .tup xs, .int i => (atI xs i).map .fro
  | .str z, .int i => if z.length ≤ lim then (atI z.cps.toList i).map fun k => .fro (.str ⟨#[k]⟩) else none
  | _, _ => none
theorem RepL.atI {K : PySem.W.Frag} {F : Hp} {as : List Addr} {vs : List V} {xs : List D} {i : Int} {d : D} (h : RepL K F as vs xs) (e : L2.atI xs i = some d) : ∃ v, L2.atI vs i = some v ∧ Rep K F as v d := by
  unfold L2.atI at e ⊢
  rw [← h.len] at e
  cases q : ixN vs.length i with
  | none => rw [q] at e; cases e
  | some j => rw [q] at e; exact h.get e
theorem wmap {K : PySem.W.Frag} {F : Hp} {as : List Addr} {H : Hp} {Q : VK} {α : Type} {o : Option α} {f : α → PV} (w : Wants K F as H Q (o.map f)) : ∃ a, o = some a ∧ Wants K F as H Q (some (f a)) := by
  cases o with
  | none => exact False.elim w
  | some a => exact ⟨a, rfl, w⟩
theorem o_ix : Pure2 X.K (rIx X.K) dIx := by
  intro F as H x y a b Q l hx hy w
  match a, b, hx, hy, w with
  | .lst xs, .int i, hx, hy, w =>
    obtain ⟨d, e, w⟩ := wmap w
    obtain ⟨p, vs, rfl, h1, h2⟩ := hx.lst l
    obtain ⟨v, h3, h4⟩ := h2.atI e
    exact .inl ⟨p, vs, i, v, rfl, hy.int, .inl (.inl h1), h3, w _ h4⟩
  | .fzl xs, .int i, hx, hy, w =>
    obtain ⟨d, e, w⟩ := wmap w
    obtain ⟨p, vs, rfl, h1, h2⟩ := hx.fzl l
    obtain ⟨v, h3, h4⟩ := h2.atI e
    exact .inl ⟨p, vs, i, v, rfl, hy.int, h1, h3, w _ h4⟩
  | .tup xs, .int i, hx, hy, w =>
    obtain ⟨d, e, w⟩ := wmap w
    obtain ⟨p, vs, rfl, h1, h2⟩ := hx.tup l
    obtain ⟨v, h3, h4⟩ := h2.atI e
    exact .inr (.inl ⟨p, vs, i, v, rfl, hy.int, h1, h3, w _ h4⟩)
  | .str z, .int i, hx, hy, w =>
    obtain ⟨h, w⟩ := wif w
    obtain ⟨k, e, w⟩ := wmap w
    exact .inr (.inr ⟨z, i, k, hx.str, hy.int, lim_ok h, e, w _ (.str _)⟩)
/-- a[lo:hi] -/
def cutD (xs : List D) (lo hi : Option Int) : List D := (xs.drop (HT.sIx xs.length 0 lo)).take (HT.sIx xs.length xs.length hi - HT.sIx xs.length 0 lo)
theorem RepL.cut {K : PySem.W.Frag} {F : Hp} {as : List Addr} {vs : List V} {xs : List D} (h : RepL K F as vs xs) (lo hi : Option Int) : RepL K F as (cutV vs lo hi) (cutD xs lo hi) := by
  unfold cutV cutD
  rw [h.len]
  exact (h.drop _).take _
def dSl (lo hi : Option Int) : D → Option PV
  | .lst xs => some (.new (.lst (cutD xs lo hi)))
  | .fzl xs => some (.new (.lst (cutD xs lo hi)))
  | .tup xs => some (.tup (cutD xs lo hi))
  | .str z => if z.length ≤ lim then some (.fro (.str (Txt.slice z lo hi))) else none
  | _ => none
def rSlAll (K : PySem.W.Frag) : V → Option Int → Option Int → Hp → VK → Prop := fun x lo hi H Q => rSlL K x lo hi H Q ∨ rSlA K x lo hi H Q
theorem sl_all : SlR X (rSlAll X.K) := SlR.or sl_list sl_tupA
theorem cut_all {α : Type} {xs : List α} {lo hi : Option Int} (h : HT.sIx xs.length 0 lo = 0 ∧ HT.sIx xs.length xs.length hi = xs.length) : (xs.drop (HT.sIx xs.length 0 lo)).take (HT.sIx xs.length xs.length hi - HT.sIx xs.length 0 lo) = xs := by
  rw [h.1, h.2]
  simp
end
end PD
/-! PD, part 5: slices, membership, built-ins by values; expressions -/
namespace PD
open PySem PySem.Spec PyProof.Rows L2
def rSumT (K : PySem.W.Frag) : List V → Hp → VK → Prop := fun vs H Q => ∃ (a : Addr) (ns : List Int), vs = [V.ref a] ∧ SqT K H a (ns.map V.int) ∧ Q (.int ns.sum) H
theorem cr_sumT {X : Cx} (hc : X.calm = true) : CallR X (.builtin "sum") (rSumT X.K) := by
  intro pins s σ H vs us Q I r h
  obtain ⟨a, ns, rfl, hs, q⟩ := h
  obtain ⟨its, rv, hl, _⟩ := I.tuple hs
  rw [Vals.ref1 r]
  have hi := rv.ints
  obtain ⟨xs, e⟩ := hi.allInts.items
  have hn : numsOf (intItems xs).toList = ns := by rw [← e]; exact hi.numsOf
  rw [nums_intItems] at hn
  rw [e] at hl
  have ht : s.heap.IsTuple a (intItems xs) := hl
  have hlt : a < s.heap.objs.size := by obtain ⟨o, h1, _⟩ := hl; exact Heap.lt_size h1
  refine call_sum_walkG (iter_tuple hl ?_)
  refine ⟨s.heap.objs.size, _, _, _, _, _, numAt xs, rfl, Walks.tuple (A := X.A.in1) (I.ok.hd hc) _ a (Nat.ne_of_lt hlt) (intItems xs), ⟨⟨_, Heap.get?_push_size _ rfl, rfl, rfl⟩, ht.push _⟩, fun b hb => ?_, (fun _ _ => intItems_at), fun h' tk t' hk => ?_⟩
  · show b < (s.heap.push _).objs.size
    rw [Heap.size_push]
    rcases List.mem_cons.mp hb with rfl | hb
    · exact Nat.lt_succ_self _
    · rcases List.mem_cons.mp hb with rfl | hb
      · exact Nat.lt_succ_of_lt hlt
      · cases hb
  · have hk2 : ∀ b o, s.heap.get? b = some o → h'.get? b = some o := fun b o e1 => hk b o (fun hb => absurd (Heap.lt_size e1) ((List.mem_singleton.mp hb) ▸ Nat.lt_irrefl _)) (Heap.get?_push_of_some _ e1)
    have ez : (intItems xs).size = xs.size := by simp [intItems]
    rw [ez, preSum_eq, List.take_of_length_le (by simp), hn]
    exact ⟨.int _, H, I.kept hk2, ⟨_, rfl⟩, q⟩
section
variable {X : Cx}
def Pure1S (K : PySem.W.Frag) (r : V → Option Int → Option Int → Hp → VK → Prop) : Prop :=
  ∀ F as H x a lo hi Q, Le F H → RepC K F as H x a → Wants K F as H Q (dSl lo hi a) → r x lo hi H Q
def rSlB (K : PySem.W.Frag) : V → Option Int → Option Int → Hp → VK → Prop := fun x lo hi H Q => rSlAll K x lo hi H Q ∨ C8.rSlX x lo hi H Q
theorem sl_B : SlR X (rSlB X.K) := SlR.or sl_all C8.sl_txt
theorem o_sl : Pure1S X.K (rSlB X.K) := by
  intro F as H x a lo hi Q l hx w
  match a, hx, w with
  | .lst xs, hx, w =>
    obtain ⟨p, vs, rfl, h1, h2⟩ := hx.lst l
    exact .inl (.inl ⟨p, vs, rfl, .inl (.inl h1), fun z hz => w z _ hz (.lst (h2.cut lo hi))⟩)
  | .fzl xs, hx, w =>
    obtain ⟨p, vs, rfl, h1, h2⟩ := hx.fzl l
    exact .inl (.inl ⟨p, vs, rfl, h1, fun z hz => w z _ hz (.lst (h2.cut lo hi))⟩)
  | .tup xs, hx, w =>
    have hx' := hx.tup l
    obtain ⟨p, vs, rfl, h1, h2⟩ := hx'
    refine .inl (.inr ⟨p, vs, rfl, h1, fun e => ?_, fun _ z hz => w.1 z _ hz (h2.cut lo hi)⟩)
    have e2 : cutD xs lo hi = xs := by
      unfold cutD
      rw [h2.len] at e
      exact cut_all e
    rw [dSl, e2] at w
    rcases hx with hx | ⟨_, _, o, _, z, _⟩
    · exact w.2 _ hx
    · cases o <;> cases z
  | .str z, hx, w =>
    obtain ⟨h, w⟩ := wif w
    exact .inr ⟨z, hx.str, lim_ok h, w _ (.str _)⟩

/-! in, not in -/
def flatD : D → Bool
  | .non => true
  | .bl _ => true
  | .int _ => true
  | .str _ => true
  | _ => false
def eqF : D → D → Bool
  | .non, .non => true
  | .bl a, .bl b => a == b
  | .bl a, .int b => (if a then 1 else 0) == b
  | .int a, .bl b => a == (if b then 1 else 0)
  | .int a, .int b => a == b
  | .str a, .str b => a == b
  | _, _ => false
def keyOf : D → Option Key
  | .int i => some (.inl i)
  | .str x => some (.inr x)
  | _ => none
def allFlat (xs : List D) : Bool := xs.all flatD
def inGen (f : Bool → Bool) (x : D) (ys : List D) : Option PV :=
  match toPy x, toPyL ys with
  | some p, some qs => if okEq p (.list qs) then pB (f (qs.any fun z => PyData.eqv z p)) else none
  | _, _ => none
def dInF (f : Bool → Bool) : D → D → Option PV
  | x, .lst ys => if flatD x && allFlat ys then pB (f (ys.any fun y => eqF y x)) else inGen f x ys
  | x, .fzl ys => if flatD x && allFlat ys then pB (f (ys.any fun y => eqF y x)) else inGen f x ys
  | x, .tup ys => if flatD x && allFlat ys then pB (f (ys.any fun y => eqF y x)) else none
  | x, .dic ks _ => match keyOf x with
    | some k => pB (f (ks.any fun y => decide (y = k)))
    | none => none
  | _, _ => none
def dIn : D → D → Option PV := dInF id
def dNotIn : D → D → Option PV := dInF not
def rDIn (f : Bool → Bool) : R2 := fun x y H Q => ∃ a ov, y = .ref a ∧ DGet H a x ov ∧ Q (.bl (f ov.isSome)) H
theorem op_dIn (hu : X.A.units + 1 < cLine) : OpR X (compareOp .In) (rDIn id) := by
  intro pins s σ H x y v u Q I rx ry h
  obtain ⟨a, ov, rfl, g, q⟩ := h
  obtain rfl : u = Value.ref a := ry
  exact d_in hu I g rx fun s3 I3 => ⟨.bl ov.isSome, H, I3, rfl, q⟩
theorem op_dNotIn (hu : X.A.units + 1 < cLine) : OpR X (compareOp .NotIn) (rDIn not) := by
  intro pins s σ H x y v u Q I rx ry h
  obtain ⟨a, ov, rfl, g, q⟩ := h
  obtain rfl : u = Value.ref a := ry
  exact d_notIn hu I g rx fun s3 I3 => ⟨.bl (!ov.isSome), H, I3, rfl, q⟩
def rInAll (K : PySem.W.Frag) : R2 := fun x y H Q => rIn K false x y H Q ∨ rInD K x y H Q ∨ rDIn id x y H Q
def rNotInAll (K : PySem.W.Frag) : R2 := fun x y H Q => rIn K true x y H Q ∨ rNotInD K x y H Q ∨ rDIn not x y H Q
theorem op_inAll (hu : X.A.units + 65 < cLine) : OpR X (compareOp .In) (rInAll X.K) := OpR.or op_in_seq (OpR.or (op_inD hu) (op_dIn (by omega)))
theorem op_notInAll (hu : X.A.units + 65 < cLine) : OpR X (compareOp .NotIn) (rNotInAll X.K) := OpR.or op_notIn_seq (OpR.or (op_notInD hu) (op_dNotIn (by omega)))
theorem flat_rep {K : PySem.W.Frag} {F : Hp} {as : List Addr} {v : V} {d : D} (h : Rep K F as v d) (e : flatD d = true) : flatV v = true := by
  cases h <;> first | rfl | cases e
theorem flatB {K : PySem.W.Frag} {F : Hp} {as : List Addr} {H : Hp} {v : V} {d : D} (h : RepC K F as H v d) (e : flatD d = true) : Rep K F as v d := by
  rcases h with h | ⟨_, _, o, _, rfl, _⟩
  · exact h
  · cases o <;> cases e
theorem eqF_rep {K : PySem.W.Frag} {F : Hp} {as : List Addr} {v w : V} {d e : D} (h : Rep K F as v d) (k : Rep K F as w e) (h1 : flatD d = true) (h2 : flatD e = true) : eqV v w = eqF d e := by
  cases h <;> cases h1 <;> cases k <;> cases h2 <;> rfl
theorem all_flat {K : PySem.W.Frag} {F : Hp} {as : List Addr} : ∀ {vs : List V} {ds : List D}, RepL K F as vs ds → allFlat ds = true → vs.all flatV = true
  | _, _, .nil, _ => rfl
  | _, _, .cons r t, h => by
    unfold allFlat at h
    rw [List.all_cons, Bool.and_eq_true] at h
    rw [List.all_cons, Bool.and_eq_true]
    exact ⟨flat_rep r h.1, all_flat t h.2⟩
theorem any_flat {K : PySem.W.Frag} {F : Hp} {as : List Addr} {v : V} {d : D} (hv : Rep K F as v d) (hd : flatD d = true) : ∀ {vs : List V} {ds : List D}, RepL K F as vs ds → allFlat ds = true → (vs.any fun y => eqV y v) = ds.any fun y => eqF y d
  | _, _, .nil, _ => rfl
  | _, _, .cons r t, h => by
    unfold allFlat at h
    rw [List.all_cons, Bool.and_eq_true] at h
    rw [List.any_cons, List.any_cons, eqF_rep r hv h.1 hd, any_flat hv hd t h.2]
theorem inGen_some {f : Bool → Bool} {K : PySem.W.Frag} {F : Hp} {as : List Addr} {H : Hp} {Q : VK} {x : D} {ys : List D} (w : Wants K F as H Q (inGen f x ys)) :
    ∃ p qs, toPy x = some p ∧ toPyL ys = some qs ∧ SeqAt.shaped p = true ∧ SeqAt.shaped (.list qs) = true ∧ Q (.bl (f (qs.any fun z => PyData.eqv z p))) H := by
  unfold inGen at w
  cases e1 : toPy x with
  | none => rw [e1] at w; exact w.elim
  | some p =>
    cases e2 : toPyL ys with
    | none => rw [e1, e2] at w; exact w.elim
    | some qs =>
      rw [e1, e2] at w
      obtain ⟨h, w⟩ := wif w
      unfold okEq at h
      rw [Bool.and_eq_true] at h
      exact ⟨p, qs, rfl, rfl, h.1, h.2, w _ (.bl _)⟩
theorem key_rep {K : PySem.W.Frag} {F : Hp} {as : List Addr} {H : Hp} {v : V} {d : D} {k : Key} (h : RepC K F as H v d) (e : keyOf d = some k) : v = kV k := by
  cases d with
  | int i => cases e; exact h.int
  | str i => cases e; exact h.str
  | _ => cases e
theorem in_case (f : Bool → Bool) {K : PySem.W.Frag} {F : Hp} {as : List Addr} {H : Hp} {Q : VK} {x y : V} {a b : D} (l : Le F H) (hx : RepC K F as H x a) (hy : RepC K F as H y b) (w : Wants K F as H Q (dInF f a b)) :
    (∃ p xs, y = .ref p ∧ (SqL K H p xs ∨ SqT K H p xs) ∧ flatV x = true ∧ xs.all flatV = true ∧ Q (.bl (f (inV x xs))) H) ∨
    (∃ d ds, Dp K H x d ∧ Dp K H y (.list ds) ∧ SeqAt.shaped d = true ∧ SeqAt.shaped (.list ds) = true ∧ Q (.bl (f (ds.any fun z => PyData.eqv z d))) H) ∨ rDIn f x y H Q := by
  match b, hy, w with
  | .lst ys, hy, w =>
    rcases wif2 w with ⟨h, w⟩ | ⟨_, w⟩
    · rw [Bool.and_eq_true] at h
      obtain ⟨p, vs, rfl, h1, h2⟩ := hy.lst l
      have rx := flatB hx h.1
      refine .inl ⟨p, vs, rfl, .inl (.inl (.inl h1)), flat_rep rx h.1, all_flat h2 h.2, ?_⟩
      unfold inV
      rw [any_flat rx h.1 h2 h.2]
      exact w _ (.bl _)
    · obtain ⟨p, qs, h1, h2, h3, h4, h5⟩ := inGen_some w
      exact .inr (.inl ⟨p, qs, hx.dp l h1, hy.dp l (by rw [toPy, h2]; rfl), h3, h4, h5⟩)
  | .fzl ys, hy, w =>
    rcases wif2 w with ⟨h, w⟩ | ⟨_, w⟩
    · rw [Bool.and_eq_true] at h
      obtain ⟨p, vs, rfl, h1, h2⟩ := hy.fzl l
      have rx := flatB hx h.1
      refine .inl ⟨p, vs, rfl, .inl h1, flat_rep rx h.1, all_flat h2 h.2, ?_⟩
      unfold inV
      rw [any_flat rx h.1 h2 h.2]
      exact w _ (.bl _)
    · obtain ⟨p, qs, h1, h2, h3, h4, h5⟩ := inGen_some w
      exact .inr (.inl ⟨p, qs, hx.dp l h1, hy.dp l (by rw [toPy, h2]; rfl), h3, h4, h5⟩)
  | .tup ys, hy, w =>
    obtain ⟨h, w⟩ := wif w
    rw [Bool.and_eq_true] at h
    obtain ⟨p, vs, rfl, h1, h2⟩ := hy.tup l
    have rx := flatB hx h.1
    refine .inl ⟨p, vs, rfl, .inr h1, flat_rep rx h.1, all_flat h2 h.2, ?_⟩
    unfold inV
    rw [any_flat rx h.1 h2 h.2]
    exact w _ (.bl _)
  | .dic ks us, hy, w =>
    rw [dInF] at w
    cases e : keyOf a with
    | none => rw [e] at w; exact w.elim
    | some k =>
      rw [e] at w
      obtain ⟨p, kvs, rfl, h1, rfl, h3⟩ := hy.dic l
      refine .inr (.inr ⟨p, _, rfl, .inl ⟨kvs, k, .inl h1, key_rep hx e, rfl⟩, ?_⟩)
      rw [← valV_any]
      have e2 : (kvs.any fun kv => decide (kv.1 = k)) = (kvs.map (·.1)).any fun y => decide (y = k) := by
        rw [List.any_map]; rfl
      rw [e2]
      exact w _ (.bl _)
theorem o_in : Pure2 X.K (rInAll X.K) dIn := fun F as H x y a b Q l hx hy w => by
  rcases in_case id l hx hy w with ⟨p, xs, h1, h2, h3, h4, h5⟩ | h | h
  · exact .inl ⟨p, xs, h1, h2, h3, h4, h5⟩
  · exact .inr (.inl h)
  · exact .inr (.inr h)
theorem o_notIn : Pure2 X.K (rNotInAll X.K) dNotIn := fun F as H x y a b Q l hx hy w => by
  rcases in_case not l hx hy w with ⟨p, xs, h1, h2, h3, h4, h5⟩ | h | h
  · exact .inl ⟨p, xs, h1, h2, h3, h4, h5⟩
  · exact .inr (.inl h)
  · exact .inr (.inr h)

/-! signs and truth -/
def dNeg : D → Option PV
  | .int i => pI (-i)
  | _ => none
theorem o_neg : Pure1 X.K (rU fun i => .int (-i)) dNeg := by
  intro F as H x a Q l hx w
  match a, hx, w with
  | .int i, hx, w => exact ⟨i, hx.int, w _ (.int _)⟩
def truD : D → Option Bool
  | .non => some false
  | .bl b => some b
  | .int i => some (i != 0)
  | .str x => if x.length ≤ lim then some ((x.length : Int) != 0) else none
  | .lst xs => some (!xs.isEmpty)
  | .fzl xs => some (!xs.isEmpty)
  | .tup xs => some (!xs.isEmpty)
  | .dic ks _ => some (!ks.isEmpty)
  | _ => none
theorem RepL.empty {K : PySem.W.Frag} {F : Hp} {as : List Addr} {vs : List V} {ds : List D} (h : RepL K F as vs ds) : ds.isEmpty = vs.isEmpty := by cases h <;> rfl
theorem tru_rep {K : PySem.W.Frag} {F : Hp} {as : List Addr} {H : Hp} {v : V} {d : D} {k : Bool} (l : Le F H) (h : RepC K F as H v d) (e : truD d = some k) : TruV K v H k := by
  cases d with
  | non => rw [h.non]; exact (Option.some.inj e).symm
  | bl b => rw [h.bl]; exact (Option.some.inj e).symm
  | int i => rw [h.int]; exact (Option.some.inj e).symm
  | str x =>
    rw [h.str]
    by_cases q : x.length ≤ lim
    · have e2 : (if x.length ≤ lim then some ((x.length : Int) != 0) else none) = some k := e
      rw [if_pos q] at e2
      exact ⟨lim_ok q, (Option.some.inj e2).symm⟩
    · have e2 : (if x.length ≤ lim then some ((x.length : Int) != 0) else none) = some k := e
      rw [if_neg q] at e2
      cases e2
  | lst xs =>
    obtain ⟨p, vs, rfl, h1, h2⟩ := h.lst l
    refine .inl ⟨vs, .inl (.inl h1), ?_⟩
    rw [← h2.empty]
    exact (Option.some.inj e).symm
  | fzl xs =>
    obtain ⟨p, vs, rfl, h1, h2⟩ := h.fzl l
    refine .inl ⟨vs, h1, ?_⟩
    rw [← h2.empty]
    exact (Option.some.inj e).symm
  | tup xs =>
    obtain ⟨p, vs, rfl, h1, h2⟩ := h.tup l
    refine .inr (.inl ⟨vs, h1, ?_⟩)
    rw [← h2.empty]
    exact (Option.some.inj e).symm
  | dic ks us =>
    obtain ⟨p, kvs, rfl, h1, rfl, h3⟩ := h.dic l
    refine .inr (.inr ⟨kvs, h1, ?_⟩)
    have := (Option.some.inj e).symm
    rw [this]
    cases kvs <;> rfl
  | ref n => cases e
  | rep d => cases e

/-! built-ins -/
def dLen : List D → Option PV
  | [.lst xs] => pI xs.length
  | [.fzl xs] => pI xs.length
  | [.tup xs] => pI xs.length
  | [.str x] => if x.length ≤ lim then pI x.length else none
  | _ => none
theorem RepCL.one {K : PySem.W.Frag} {F : Hp} {as : List Addr} {H : Hp} {vs : List V} {d : D} (h : RepCL K F as H vs [d]) : ∃ v, vs = [v] ∧ RepC K F as H v d := by
  cases h with
  | cons h t => cases t; exact ⟨_, rfl, h⟩
theorem RepCL.two {K : PySem.W.Frag} {F : Hp} {as : List Addr} {H : Hp} {vs : List V} {d e : D} (h : RepCL K F as H vs [d, e]) : ∃ v w, vs = [v, w] ∧ RepC K F as H v d ∧ RepC K F as H w e := by
  cases h with
  | cons h t =>
    obtain ⟨w, rfl, k⟩ := t.one
    exact ⟨_, _, rfl, h, k⟩
def rLen (K : PySem.W.Frag) : List V → Hp → VK → Prop := fun xs H Q => ∃ x n, xs = [x] ∧ LenV K x H n ∧ Q (.int n) H
theorem o_len : PureN X.K (rLen X.K) dLen := by
  intro F as H vs ds Q l h w
  match ds, h, w with
  | [.lst xs], h, w =>
    obtain ⟨v, rfl, hv⟩ := h.one
    obtain ⟨p, vs, rfl, h1, h2⟩ := hv.lst l
    exact ⟨_, _, rfl, .inl ⟨vs, .inl (.inl h1), h2.len.symm⟩, w _ (.int _)⟩
  | [.fzl xs], h, w =>
    obtain ⟨v, rfl, hv⟩ := h.one
    obtain ⟨p, vs, rfl, h1, h2⟩ := hv.fzl l
    exact ⟨_, _, rfl, .inl ⟨vs, h1, h2.len.symm⟩, w _ (.int _)⟩
  | [.tup xs], h, w =>
    obtain ⟨v, rfl, hv⟩ := h.one
    obtain ⟨p, vs, rfl, h1, h2⟩ := hv.tup l
    exact ⟨_, _, rfl, .inr ⟨vs, h1, h2.len.symm⟩, w _ (.int _)⟩
  | [.str x], h, w =>
    obtain ⟨v, rfl, hv⟩ := h.one
    obtain ⟨k, w⟩ := wif w
    rw [hv.str]
    exact ⟨_, _, rfl, ⟨lim_ok k, rfl⟩, w _ (.int _)⟩
def dAbs : List D → Option PV
  | [.int i] => pI (if i < 0 then -i else i)
  | _ => none
theorem o_abs : PureN X.K (fun xs H Q => ∃ i, xs = [.int i] ∧ Q (.int (if i < 0 then -i else i)) H) dAbs := by
  intro F as H vs ds Q l h w
  match ds, h, w with
  | [.int i], h, w =>
    obtain ⟨v, rfl, hv⟩ := h.one
    exact ⟨i, by rw [hv.int], w _ (.int _)⟩
def dMax : List D → Option PV
  | [.int i, .int j] => pI (if j > i then j else i)
  | _ => none
theorem o_max : PureN X.K (fun xs H Q => ∃ i j, xs = [.int i, .int j] ∧ Q (.int (if j > i then j else i)) H) dMax := by
  intro F as H vs ds Q l h w
  match ds, h, w with
  | [.int i, .int j], h, w =>
    obtain ⟨v, u, rfl, hv, k⟩ := h.two
    exact ⟨i, j, by rw [hv.int, k.int], w _ (.int _)⟩
def dMin : List D → Option PV
  | [.int i, .int j] => pI (if j < i then j else i)
  | _ => none
theorem o_min : PureN X.K (fun xs H Q => ∃ i j, xs = [.int i, .int j] ∧ Q (.int (if j < i then j else i)) H) dMin := by
  intro F as H vs ds Q l h w
  match ds, h, w with
  | [.int i, .int j], h, w =>
    obtain ⟨v, u, rfl, hv, k⟩ := h.two
    exact ⟨i, j, by rw [hv.int, k.int], w _ (.int _)⟩
def dInt : List D → Option PV
  | [.int i] => pI i
  | [.bl b] => pI (if b then 1 else 0)
  | _ => none
theorem o_int : PureN X.K (fun xs H Q => (∃ i, xs = [.int i] ∧ Q (.int i) H) ∨ ∃ k, xs = [.bl k] ∧ Q (.int (if k then 1 else 0)) H) dInt := by
  intro F as H vs ds Q l h w
  match ds, h, w with
  | [.int i], h, w =>
    obtain ⟨v, rfl, hv⟩ := h.one
    exact .inl ⟨i, by rw [hv.int], w _ (.int _)⟩
  | [.bl i], h, w =>
    obtain ⟨v, rfl, hv⟩ := h.one
    exact .inr ⟨i, by rw [hv.bl], w _ (.int _)⟩
def intsD : List D → Option (List Int)
  | [] => some []
  | .int i :: r => (intsD r).map (i :: ·)
  | _ :: _ => none
def blsD : List D → Option (List Bool)
  | [] => some []
  | .bl i :: r => (blsD r).map (i :: ·)
  | _ :: _ => none
theorem ints_rep {K : PySem.W.Frag} {F : Hp} {as : List Addr} : ∀ {ds : List D} {vs : List V} {ns : List Int}, RepL K F as vs ds → intsD ds = some ns → vs = ns.map V.int
  | [], _, _, h, e => by cases h; cases e; rfl
  | d :: ds, _, ns, h, e => by
    cases h with
    | cons h1 h2 =>
      cases d with
      | int i =>
        rw [intsD] at e
        cases q : intsD ds with
        | none => rw [q] at e; cases e
        | some ms =>
          rw [q] at e; cases e
          rw [ints_rep h2 q]
          cases h1
          rfl
      | _ => cases e
theorem bls_rep {K : PySem.W.Frag} {F : Hp} {as : List Addr} : ∀ {ds : List D} {vs : List V} {ns : List Bool}, RepL K F as vs ds → blsD ds = some ns → vs = ns.map V.bl
  | [], _, _, h, e => by cases h; cases e; rfl
  | d :: ds, _, ns, h, e => by
    cases h with
    | cons h1 h2 =>
      cases d with
      | bl i =>
        rw [blsD] at e
        cases q : blsD ds with
        | none => rw [q] at e; cases e
        | some ms =>
          rw [q] at e; cases e
          rw [bls_rep h2 q]
          cases h1
          rfl
      | _ => cases e
def dSum : List D → Option PV
  | [.lst xs] => (intsD xs).map fun ns => .fro (.int ns.sum)
  | [.tup xs] => (intsD xs).map fun ns => .fro (.int ns.sum)
  | _ => none
def rSumB (K : PySem.W.Frag) : List V → Hp → VK → Prop := fun vs H Q => rSum K vs H Q ∨ rSumT K vs H Q
theorem o_sum : PureN X.K (rSumB X.K) dSum := by
  intro F as H vs ds Q l h w
  match ds, h, w with
  | [.lst xs], h, w =>
    obtain ⟨v, rfl, hv⟩ := h.one
    obtain ⟨ns, e, w⟩ := wmap w
    obtain ⟨p, vs, rfl, h1, h2⟩ := hv.lst l
    have e2 := ints_rep h2 e
    subst e2
    exact .inl ⟨p, ns, rfl, .inl (.inl h1), w _ (.int _)⟩
  | [.tup xs], h, w =>
    obtain ⟨v, rfl, hv⟩ := h.one
    obtain ⟨ns, e, w⟩ := wmap w
    obtain ⟨p, vs, rfl, h1, h2⟩ := hv.tup l
    have e2 := ints_rep h2 e
    subst e2
    exact .inr ⟨p, ns, rfl, h1, w _ (.int _)⟩
theorem cr_sumB (hc : X.calm = true) : CallR X (.builtin "sum") (rSumB X.K) := by
  intro pins s σ H vs us Q I r h
  rcases h with h | h
  · exact cr_sum hc pins s σ H vs us Q I r h
  · exact cr_sumT hc pins s σ H vs us Q I r h
def dAny : List D → Option PV
  | [.lst xs] => (blsD xs).map fun ns => .fro (.bl (ns.any id))
  | _ => none
theorem o_any : PureN X.K (rAny X.K) dAny := by
  intro F as H vs ds Q l h w
  match ds, h, w with
  | [.lst xs], h, w =>
    obtain ⟨v, rfl, hv⟩ := h.one
    obtain ⟨ns, e, w⟩ := wmap w
    obtain ⟨p, vs, rfl, h1, h2⟩ := hv.lst l
    have e2 := bls_rep h2 e
    subst e2
    exact ⟨p, ns, rfl, .inl (.inl h1), w _ (.bl _)⟩
def dAll : List D → Option PV
  | [.lst xs] => (blsD xs).map fun ns => .fro (.bl (ns.all id))
  | _ => none
theorem o_all : PureN X.K (rAll X.K) dAll := by
  intro F as H vs ds Q l h w
  match ds, h, w with
  | [.lst xs], h, w =>
    obtain ⟨v, rfl, hv⟩ := h.one
    obtain ⟨ns, e, w⟩ := wmap w
    obtain ⟨p, vs, rfl, h1, h2⟩ := hv.lst l
    have e2 := bls_rep h2 e
    subst e2
    exact ⟨p, ns, rfl, .inl (.inl h1), w _ (.bl _)⟩
def dList : List D → Option PV
  | [.lst xs] => some (.new (.lst xs))
  | [.fzl xs] => some (.new (.lst xs))
  | [.tup xs] => some (.new (.lst xs))
  | _ => none
def rListOf (K : PySem.W.Frag) : List V → Hp → VK → Prop := fun xs H Q => ∃ p ys, xs = [.ref p] ∧ (SqL K H p ys ∨ SqT K H p ys) ∧ ∀ l, H l = none → Q (.ref l) (upd H l (.lst ys))
theorem o_list : PureN X.K (rListOf X.K) dList := by
  intro F as H vs ds Q l h w
  match ds, h, w with
  | [.lst xs], h, w =>
    obtain ⟨v, rfl, hv⟩ := h.one
    obtain ⟨p, vs, rfl, h1, h2⟩ := hv.lst l
    exact ⟨p, vs, rfl, .inl (.inl (.inl h1)), fun z hz => w z _ hz (.lst h2)⟩
  | [.fzl xs], h, w =>
    obtain ⟨v, rfl, hv⟩ := h.one
    obtain ⟨p, vs, rfl, h1, h2⟩ := hv.fzl l
    exact ⟨p, vs, rfl, .inl h1, fun z hz => w z _ hz (.lst h2)⟩
  | [.tup xs], h, w =>
    obtain ⟨v, rfl, hv⟩ := h.one
    obtain ⟨p, vs, rfl, h1, h2⟩ := hv.tup l
    exact ⟨p, vs, rfl, .inr h1, fun z hz => w z _ hz (.lst h2)⟩
def dTuple : List D → Option PV
  | [.lst xs] => some (.tup xs)
  | [.fzl xs] => some (.tup xs)
  | [.tup xs] => some (.tup xs)
  | _ => none
def rTupOf (K : PySem.W.Frag) : List V → Hp → VK → Prop := fun xs H Q => ∃ p ys, xs = [.ref p] ∧ ((SqL K H p ys ∧ ∀ l, H l = none → Q (.ref l) (upd H l (.tup ys))) ∨ (SqT K H p ys ∧ Q (.ref p) H))
theorem o_tuple : PureN X.K (rTupOf X.K) dTuple := by
  intro F as H vs ds Q l h w
  match ds, h, w with
  | [.lst xs], h, w =>
    obtain ⟨v, rfl, hv⟩ := h.one
    obtain ⟨p, vs, rfl, h1, h2⟩ := hv.lst l
    exact ⟨p, vs, rfl, .inl ⟨.inl (.inl h1), fun z hz => w.1 z _ hz h2⟩⟩
  | [.fzl xs], h, w =>
    obtain ⟨v, rfl, hv⟩ := h.one
    obtain ⟨p, vs, rfl, h1, h2⟩ := hv.fzl l
    exact ⟨p, vs, rfl, .inl ⟨h1, fun z hz => w.1 z _ hz h2⟩⟩
  | [.tup xs], h, w =>
    obtain ⟨v, rfl, hv⟩ := h.one
    have h' := hv.tup l
    obtain ⟨p, vs, rfl, h1, h2⟩ := h'
    rcases hv with h | ⟨_, _, o, _, e, _⟩
    · exact ⟨p, vs, rfl, .inr ⟨h1, w.2 _ h⟩⟩
    · cases o <;> cases e
end
end PD
/-! PD, part 6: expressions -/
namespace PD
open PySem PySem.Spec PyProof.Rows L2

theorem wants_gen {c : Cc} {N : Addr → Prop} {F : Hp} {as : List Addr} {env : En} {st : Sto} {σ : L2.St} {H : Hp} {Q : VK} {o : Option PV} {P : PR → En → Sto → Hp → List Addr → Hp → Prop} (r : Rel c.K N F as env st σ H)
    (p : Post c N F as σ H (pv o env st) P) (k : ∀ pr F' H' v, Rel c.K N F' as env st σ H' → Le F F' → Kp as as H H' → RepP c.K N F' as env σ H' v pr → P pr env st F' as H' → Q v H') : Wants c.K F as H Q o := by
  match o, p with
  | some (.fro d), p => exact fun v q => k (.fro d) _ _ _ r (Le.refl _) (Kp.refl _ _) q (Post.here p r)
  | some (.new o), p =>
    intro p' ho hp q
    obtain ⟨h1, h2, h3, h4⟩ := r.fresh hp
    exact k (.new o) _ _ _ (r.alloc hp) (Le.refl _) (Kp.put hp) ⟨p', ho, rfl, upd_same, q, h1, h2, h3, h4⟩ (p F as _ (r.alloc hp) (Le.refl _) (Pre.refl _) (Kp.put hp))
  | some (.tup xs), p =>
    refine ⟨fun p' us hp q => ?_, fun v q => k (.fro (.tup xs)) _ _ _ r (Le.refl _) (Kp.refl _ _) q (Post.here p r)⟩
    obtain ⟨h1, h2, h3, h4⟩ := r.fresh hp
    exact k (.fro (.tup xs)) _ _ _ (r.lay hp) (Le.put h1) (Kp.put hp) (Rep.tup (.inl (.inl upd_same)) (q.mono (Le.put h1) (Pre.refl _))) (p (upd F p' (.tup us)) as _ (r.lay hp) (Le.put h1) (Pre.refl _) (Kp.put hp))
  | none, p => exact p

/-! ### combinators -/
def noRes {α : Type} : M α := fun _ _ => .bad
def truM (d : D) : M Bool := fun e s => opt (truD (dr s d)) e s
def mTru (m : M D) : M Bool := bnd m truM
def blP : PR → M Bool
  | .fro (.bl b) => ret b
  | _ => noRes
def mBl (m : M PR) : M Bool := bnd m blP
def chainP (g : D → D → Option PV) (y : D) (m : M D) : PR → M PR
  | .fro (.bl true) => bnd m (pv2 g y)
  | .fro (.bl false) => fro (.bl false)
  | _ => noRes
def mChain (f g : D → D → Option PV) (a b d : M D) : M PR := bnd a fun x => bnd b fun y => bnd (pv2 f x y) (chainP g y d)
def mAnd (a b : M Bool) : M Bool := bnd a fun k => if k then b else ret false
def mOr (a b : M Bool) : M Bool := bnd a fun k => if k then ret true else b
def mNot (a : M Bool) : M Bool := bnd a fun k => ret !k
def eNotT (m : M D) : M D := bnd (mTru m) fun k => ret (.bl !k)
def andD (b : M D) : D → M D
  | .bl true => b
  | .bl false => ret (.bl false)
  | _ => noRes
def eAnd (a b : M D) : M D := bnd a (andD b)
def orD (b : M D) : D → M D
  | .bl true => ret (.bl true)
  | .bl false => b
  | _ => noRes
def eOr (a b : M D) : M D := bnd a (orD b)
def mIf {α : Type} (t : M Bool) (a b : M α) : M α := bnd t fun k => if k then a else b
def eTup (m : M (List D)) : M D := bnd m fun ds => if ds.length ≤ lim then ret (.tup ds) else noRes
def pLst (m : M (List D)) : M PR := bnd m fun ds => if ds.length ≤ lim then ret (.new (.lst ds)) else noRes
/-- parts of a slice -/
def partD : D → M (Option Int)
  | .int i => ret (some i)
  | _ => noRes
def oPart (m : M D) : M (Option Int) := bnd m partD
def oNone : M (Option Int) := ret none
def mSl (m : M D) (lo hi : M (Option Int)) : M PR := bnd m fun d => bnd lo fun l => bnd hi fun h e s => pv (dSl l h (dr s d)) e s

section
variable {X : Cx} {c : Cc} {pos : Pos} {a b e : Expr} {es : List Expr}
theorem _root_.L2.PE.eB {m : M D} (h : PE X e (tE c m)) : PE X e (tB c m) := h.imp fun _ _ _ => tE_tB
theorem _root_.L2.PE.eP {m : M D} (h : PE X e (tE c m)) : PE X e (tP c (up m)) := h.imp fun _ _ _ => tP_up
theorem _root_.L2.PE.pE {m : M PR} (h : PE X e (tP c m)) : PE X e (tE c (fz m)) := h.imp fun _ _ _ => tE_fz
theorem e_var {i : Nat} {x : Str} (hN : X.N[i]? = some x) (hv : Vis X.env.scope x) (hd : (x == ("__debug__" : Str)) = false) (hcd : (x == ("__classdict__" : Str)) = false) : PE X (.Name x pos) (tE c (eVar i)) := (pe_var hN hv hd hcd).imp fun _ _ _ => tE_var
theorem b_var {i : Nat} {x : Str} (hN : X.N[i]? = some x) (hv : Vis X.env.scope x) (hd : (x == ("__debug__" : Str)) = false) (hcd : (x == ("__classdict__" : Str)) = false) : PE X (.Name x pos) (tB c (bVar i)) := (pe_var hN hv hd hcd).imp fun _ _ _ => tB_var
theorem e_int {i j} : PE X (.Constant (.int i) j pos) (tE c (ret (.int i))) := pe_int.imp fun _ _ _ => tE_con fun _ _ => .int _
theorem e_bl {i j} : PE X (.Constant (.bool i) j pos) (tE c (ret (.bl i))) := pe_bl.imp fun _ _ _ => tE_con fun _ _ => .bl _
theorem e_str {i j} : PE X (.Constant (.str i) j pos) (tE c (ret (.str i))) := pe_str.imp fun _ _ _ => tE_con fun _ _ => .str _
theorem e_non {j} : PE X (.Constant .none j pos) (tE c (ret .non)) := pe_non.imp fun _ _ _ => tE_con fun _ _ => .non
theorem e_glob {x : Str} {d : D} {v : V} {u : Value} (hg : Gl X x) (hm : X.mg x = some u) (r : RelV v u) (hv : ∀ F as, Rep c.K F as v d) (hd : (x == ("__debug__" : Str)) = false) : PE X (.Name x pos) (tE c (ret d)) := (pe_glob hg hm r hd).imp fun _ _ _ => tE_con hv
theorem p_bin {op : Operator} {r : R2} {f : D → D → Option PV} {A B : M D} (ho : OpR X (binaryOp op) r) (hp : Pure2 c.K r f) (ha : PE X a (tB c A)) (hb : PE X b (tB c B)) : PE X (.BinOp a op b pos) (tP c (mOp2 f A B)) :=
  (pe_op ho ha hb).imp fun _ _ _ => tP_op2 hp
theorem p_cmp {op : CmpOp} {r : R2} {f : D → D → Option PV} {A B : M D} (ho : OpR X (compareOp op) r) (hp : Pure2 c.K r f) (ha : PE X a (tB c A)) (hb : PE X b (tB c B)) (hm : behindInMarks op b = false) : PE X (.Compare a [op] [b] pos) (tP c (mOp2 f A B)) :=
  (pe_cmpR ho ha hb hm).imp fun _ _ _ => tP_op2 hp
theorem p_un {op : UnaryOp} {r : V → Hp → VK → Prop} {f : D → Option PV} {A : M D} (ho : UnR X (unaryOp op) r) (hp : Pure1 c.K r f) (ha : PE X a (tB c A)) : PE X (.UnaryOp op a pos) (tP c (mOp1 f A)) :=
  (pe_un ho ha).imp fun _ _ _ => tP_op1 hp
theorem tP_chain {σ : L2.St} {H : Hp} {Q : VK} {r r' : R2} {f g : D → D → Option PV} {A B C : M D} (h1 : Pure2 c.K r f) (h2 : Pure2 c.K r' g) (h : tP c (mChain f g A B C) σ H Q) : tChain r r' (tB c A) (tB c B) (tB c C) σ H Q := by
  obtain ⟨N, F, as, env, st, r0, p⟩ := h
  refine ⟨N, F, as, env, st, r0, (Post.bind p).mono fun x e s F1 as1 H1 r1 _ _ _ q1 v hv => ?_⟩
  refine ⟨N, F1, as1, e, s, r1, (Post.bind q1).mono fun y e s F2 as2 H2 r2 l2 p2 k2 q2 u hu => ?_⟩
  refine h1 F2 as2 H2 v u _ _ _ r2.sub (dr_rep r2 (hv.mono l2 p2 k2)) (dr_rep r2 hu) (wants_gen r2 (Post.bind q2) fun pr F3 H3 z r3 l3 k3 hz q3 => ?_)
  match pr, hz, q3 with
  | .fro (.bl true), hz, q3 =>
    cases hz
    refine ⟨true, rfl, ?_⟩
    rw [if_pos rfl]
    exact ⟨N, F3, as2, e, s, r3, (Post.bind q3).mono fun d e s F4 as4 H4 r4 l4 p4 k4 q4 w hw => h2 F4 as4 H4 u w _ _ Q r4.sub (dr_rep r4 ((hu.mono l3 (Pre.refl _) k3).mono l4 p4 k4)) (dr_rep r4 hw) (wants_of r4 q4)⟩
  | .fro (.bl false), hz, q3 =>
    cases hz
    refine ⟨false, rfl, ?_⟩
    rw [if_neg Bool.false_ne_true]
    exact (Post.here q3 r3) _ (.bl _)
theorem p_chain {op op' : CmpOp} {r r' : R2} {f g : D → D → Option PV} {d : Expr} {A B C : M D} (ho : OpR X (compareOp op) r) (ho' : OpR X (compareOp op') r') (h1 : Pure2 c.K r f) (h2 : Pure2 c.K r' g) (ha : PE X a (tB c A)) (hb : PE X b (tB c B)) (hc : PE X d (tB c C)) (hm : lastMarks [op, op'] [b, d] = false) :
    PE X (.Compare a [op, op'] [b, d] pos) (tP c (mChain f g A B C)) := (pe_chain ho ho' ha hb hc hm).imp fun _ _ _ => tP_chain h1 h2
/-- a reading of a value as a test -/
theorem tT_bl {σ : L2.St} {H : Hp} {Q : Bool → Hp → Prop} {m : M PR} (h : tT c (mBl m) σ H Q) : tP c m σ H fun x H' => ∃ k, x = .bl k ∧ Q k H' := by
  obtain ⟨N, F, as, env, st, r0, p⟩ := h
  refine ⟨N, F, as, env, st, r0, (Post.bind p).mono fun x e s F1 as1 H1 r1 _ _ _ q1 v hv => ?_⟩
  match x, hv, q1 with
  | .fro (.bl k), hv, q1 =>
    cases hv
    exact ⟨k, rfl, Post.here q1 r1⟩
theorem t_cmp {op : CmpOp} {r : R2} {f : D → D → Option PV} {A B : M D} (ho : OpR X (compareOp op) r) (hp : Pure2 c.K r f) (ha : PE X a (tB c A)) (hb : PE X b (tB c B)) (hm : behindInMarks op b = false) : PT X (.Compare a [op] [b] pos) (tT c (mBl (mOp2 f A B))) :=
  (pt_cmpR ho ha hb hm).imp fun _ _ _ h => tP_op2 hp (tT_bl h)
theorem t_chain {op op' : CmpOp} {r r' : R2} {f g : D → D → Option PV} {d : Expr} {A B C : M D} (ho : OpR X (compareOp op) r) (ho' : OpR X (compareOp op') r') (h1 : Pure2 c.K r f) (h2 : Pure2 c.K r' g) (ha : PE X a (tB c A)) (hb : PE X b (tB c B)) (hc : PE X d (tB c C)) (hm : lastMarks [op, op'] [b, d] = false) :
    PT X (.Compare a [op, op'] [b, d] pos) (tT c (mBl (mChain f g A B C))) := (pt_chain ho ho' ha hb hc hm).imp fun _ _ _ h => tP_chain h1 h2 (tT_bl h)
theorem tT_tru {σ : L2.St} {H : Hp} {Q : Bool → Hp → Prop} {m : M D} (h : tT c (mTru m) σ H Q) : tB c m σ H fun x H' => ∃ k, TruV c.K x H' k ∧ Q k H' := by
  obtain ⟨N, F, as, env, st, r0, p⟩ := h
  refine ⟨N, F, as, env, st, r0, (Post.bind p).mono fun x e s F1 as1 H1 r1 _ _ _ q1 v hv => ?_⟩
  unfold truM at q1
  cases t : truD (dr s x) with
  | none => rw [t] at q1; exact q1.elim
  | some k =>
    rw [t] at q1
    exact ⟨k, tru_rep r1.sub (dr_rep r1 hv) t, Post.here q1 r1⟩
theorem t_tru (hK : c.K = X.K) {A : M D} (ha : PE X a (tB c A)) (he : ∀ whole, isTrue a X.env whole = (do let v ← whole; standAt a.pos; holding [v] (truthy v))) : PT X a (tT c (mTru A)) :=
  (pt_truth ha he).imp fun _ _ _ h => hK ▸ tT_tru h
theorem e_notT (hK : c.K = X.K) {A : M D} (ha : PE X a (tB c A)) : PE X (.UnaryOp .Not a pos) (tE c (eNotT A)) := by
  refine (pe_notT ha).imp fun σ H Q h => ?_
  obtain ⟨N, F, as, env, st, r0, p⟩ := h
  have h2 : tT c (mTru A) σ H fun k H' => Q (.bl !k) H' := ⟨N, F, as, env, st, r0, (Post.bind p).mono fun x e s F1 as1 H1 r1 _ _ _ q1 => (Post.here q1 r1) _ (.bl _)⟩
  have h3 := tT_tru h2
  rw [hK] at h3
  exact h3
theorem t_not {A : M Bool} (ha : PT X a (tT c A)) : PT X (.UnaryOp .Not a pos) (tT c (mNot A)) := by
  refine (pt_not ha).imp fun σ H Q h => ?_
  obtain ⟨N, F, as, env, st, r0, p⟩ := h
  exact ⟨N, F, as, env, st, r0, (Post.bind p).mono fun x e s F1 as1 H1 r1 _ _ _ q1 => Post.here q1 r1⟩
theorem w_and {rest : List Expr} {A B : M Bool} (ha : PT X a (tT c A)) (hb : PW X (.BoolOp .And (b :: rest) pos) (tT c B)) : PW X (.BoolOp .And (a :: b :: rest) pos) (tT c (mAnd A B)) := by
  refine (pw_and ha hb).imp fun σ H Q h => ?_
  obtain ⟨N, F, as, env, st, r0, p⟩ := h
  refine ⟨N, F, as, env, st, r0, (Post.bind p).mono fun x e s F1 as1 H1 r1 _ _ _ q1 => ?_⟩
  cases x with
  | true => rw [if_pos rfl] at q1 ⊢; exact ⟨N, F1, as1, e, s, r1, q1⟩
  | false => rw [if_neg Bool.false_ne_true] at q1 ⊢; exact Post.here q1 r1
theorem w_or {rest : List Expr} {A B : M Bool} (ha : PT X a (tT c A)) (hb : PW X (.BoolOp .Or (b :: rest) pos) (tT c B)) : PW X (.BoolOp .Or (a :: b :: rest) pos) (tT c (mOr A B)) := by
  refine (pw_or ha hb).imp fun σ H Q h => ?_
  obtain ⟨N, F, as, env, st, r0, p⟩ := h
  refine ⟨N, F, as, env, st, r0, (Post.bind p).mono fun x e s F1 as1 H1 r1 _ _ _ q1 => ?_⟩
  cases x with
  | false => rw [if_neg Bool.false_ne_true] at q1 ⊢; exact ⟨N, F1, as1, e, s, r1, q1⟩
  | true => rw [if_pos rfl] at q1 ⊢; exact Post.here q1 r1
theorem e_and {rest : List Expr} {A B : M D} (ha : PE X a (tE c A)) (hb : PE X (.BoolOp .And (b :: rest) pos) (tE c B)) : PE X (.BoolOp .And (a :: b :: rest) pos) (tE c (eAnd A B)) := by
  refine (pe_and ha hb).imp fun σ H Q h => ?_
  obtain ⟨N, F, as, env, st, r0, p⟩ := h
  refine ⟨N, F, as, env, st, r0, (Post.bind p).mono fun x e s F1 as1 H1 r1 _ _ _ q1 v hv => ?_⟩
  match x, hv, q1 with
  | .bl true, hv, q1 =>
    cases hv
    refine ⟨true, rfl, ?_⟩
    rw [if_pos rfl]
    exact ⟨N, F1, as1, e, s, r1, q1⟩
  | .bl false, hv, q1 =>
    cases hv
    refine ⟨false, rfl, ?_⟩
    rw [if_neg Bool.false_ne_true]
    exact (Post.here q1 r1) _ (.bl _)
theorem e_or {rest : List Expr} {A B : M D} (ha : PE X a (tE c A)) (hb : PE X (.BoolOp .Or (b :: rest) pos) (tE c B)) : PE X (.BoolOp .Or (a :: b :: rest) pos) (tE c (eOr A B)) := by
  refine (pe_or ha hb).imp fun σ H Q h => ?_
  obtain ⟨N, F, as, env, st, r0, p⟩ := h
  refine ⟨N, F, as, env, st, r0, (Post.bind p).mono fun x e s F1 as1 H1 r1 _ _ _ q1 v hv => ?_⟩
  match x, hv, q1 with
  | .bl true, hv, q1 =>
    cases hv
    refine ⟨true, rfl, ?_⟩
    rw [if_pos rfl]
    exact (Post.here q1 r1) _ (.bl _)
  | .bl false, hv, q1 =>
    cases hv
    refine ⟨false, rfl, ?_⟩
    rw [if_neg Bool.false_ne_true]
    exact ⟨N, F1, as1, e, s, r1, q1⟩
theorem e_ifE {t : Expr} {T : M Bool} {A B : M D} (ht : PT X t (tT c T)) (ha : PE X a (tE c A)) (hb : PE X b (tE c B)) : PE X (.IfExp t a b pos) (tE c (mIf T A B)) := by
  refine (pe_ifExp ht ha hb).imp fun σ H Q h => ?_
  obtain ⟨N, F, as, env, st, r0, p⟩ := h
  refine ⟨N, F, as, env, st, r0, (Post.bind p).mono fun x e s F1 as1 H1 r1 _ _ _ q1 => ?_⟩
  cases x with
  | true => rw [if_pos rfl] at q1 ⊢; exact ⟨N, F1, as1, e, s, r1, q1⟩
  | false => rw [if_neg Bool.false_ne_true] at q1 ⊢; exact ⟨N, F1, as1, e, s, r1, q1⟩
theorem e_ifP {t : Expr} {T : M Bool} {A B : M PR} (ht : PT X t (tT c T)) (ha : PE X a (tP c A)) (hb : PE X b (tP c B)) : PE X (.IfExp t a b pos) (tP c (mIf T A B)) := by
  refine (pe_ifExp ht ha hb).imp fun σ H Q h => ?_
  obtain ⟨N, F, as, env, st, r0, p⟩ := h
  refine ⟨N, F, as, env, st, r0, (Post.bind p).mono fun x e s F1 as1 H1 r1 _ _ _ q1 => ?_⟩
  cases x with
  | true => rw [if_pos rfl] at q1 ⊢; exact ⟨N, F1, as1, e, s, r1, q1⟩
  | false => rw [if_neg Bool.false_ne_true] at q1 ⊢; exact ⟨N, F1, as1, e, s, r1, q1⟩

/-! argument lists -/
theorem a_nil : PA X [] (tA c aNil) := pa_nil.imp fun _ _ _ => tA_nil
theorem ab_nil : PA X [] (tAB c aNil) := pa_nil.imp fun _ _ _ => tAB_nil
def noStar : Expr → Bool
  | .Starred _ _ => false
  | _ => true
theorem star_cons {env : Env} (h : noStar e = true) : starEach (e :: es) env = (false, eval e env) :: starEach es env := by
  cases e <;> first | rfl | cases h
def noStars (es : List Expr) : Bool := es.all noStar
theorem stars_any {env : Env} : ∀ {es : List Expr}, noStars es = true → (backTo pos (starEach es env)).any (·.1) = false
  | [], _ => rfl
  | e :: es, h => by
    unfold noStars at h
    rw [List.all_cons, Bool.and_eq_true] at h
    rw [star_cons h.1]
    show (false || (backTo pos (starEach es env)).any (·.1)) = false
    rw [stars_any (es := es) h.2]
    rfl
theorem a_cons {A : M D} {B : M (List D)} (hs : noStar e = true) (ha : PE X e (tE c A)) (hb : PA X es (tA c B)) : PA X (e :: es) (tA c (aCons A B)) := (pa_cons ha hb (star_cons hs)).imp fun _ _ _ => tA_cons
theorem ab_cons {A : M D} {B : M (List D)} (hs : noStar e = true) (ha : PE X e (tB c A)) (hb : PA X es (tAB c B)) : PA X (e :: es) (tAB c (aCons A B)) := (pa_cons ha hb (star_cons hs)).imp fun _ _ _ => tAB_cons
theorem k_nil : PK X [] (tA c aNil) := pk_nil.imp fun _ _ _ => tA_nil
theorem k_cons {kws : List Keyword} {nm : Option Str} {kpos : Pos} {A : M D} {B : M (List D)} (ha : PE X e (tE c A)) (hb : PK X kws (tA c B)) : PK X (⟨nm, e, kpos⟩ :: kws) (tA c (aCons A B)) := (pk_cons ha hb).imp fun _ _ _ => tA_cons
theorem e_tup {x1} {B : M (List D)} (h : PA X es (tA c B)) : PE X (.Tuple es x1 pos) (tE c (eTup B)) := by
  refine (pe_tup h).imp fun σ H Q h => ?_
  obtain ⟨N, F, as, env, st, r0, p⟩ := h
  refine ⟨N, F, as, env, st, r0, (Post.bind p).mono fun x e s F1 as1 H1 r1 _ _ _ q1 us hu => ?_⟩
  by_cases hl : x.length ≤ lim
  · rw [if_pos hl] at q1
    refine ⟨by rw [hu.len]; exact lim_ok hl, fun z hz => ?_⟩
    obtain ⟨h1, _⟩ := r1.fresh hz
    exact q1 _ as1 _ (r1.lay hz) (Le.put h1) (Pre.refl _) (Kp.put hz) _ (.tup (.inl (.inl upd_same)) (hu.mono (Le.put h1) (Pre.refl _)))
  · rw [if_neg hl] at q1
    exact q1.elim
theorem p_lst {B : M (List D)} (h : PA X es (tA c B)) : PE X (.List es pos) (tP c (pLst B)) := by
  refine (pe_lst h).imp fun σ H Q h => ?_
  obtain ⟨N, F, as, env, st, r0, p⟩ := h
  refine ⟨N, F, as, env, st, r0, (Post.bind p).mono fun x e s F1 as1 H1 r1 _ _ _ q1 us hu => ?_⟩
  by_cases hl : x.length ≤ lim
  · rw [if_pos hl] at q1
    refine ⟨by rw [hu.len]; exact lim_ok hl, fun z hz => ?_⟩
    obtain ⟨h1, h2, h3, h4⟩ := r1.fresh hz
    exact q1 _ as1 _ (r1.alloc hz) (Le.refl _) (Pre.refl _) (Kp.put hz) _ ⟨z, _, rfl, upd_same, .lst hu, h1, h2, h3, h4⟩
  · rw [if_neg hl] at q1
    exact q1.elim
/-! items and slices -/
def ixOk : Expr → Bool
  | .Slice _ _ _ _ => false
  | _ => true
theorem plain_ix (h : ixOk b = true) : PlainIx b := by
  intro o i
  cases b <;> first | rfl | cases h
theorem p_ix (hK : c.K = X.K) {A B : M D} (ha : PE X a (tB c A)) (hb : PE X b (tB c B)) (hs : ixOk b = true) : PE X (.Subscript a b pos) (tP c (mOp2 dIx A B)) :=
  (pe_ix ix_seq ha hb (plain_ix hs)).imp fun _ _ _ h => tP_op2 (r := rIx X.K) (by rw [hK]; exact o_ix) h
def tOP (c : Cc) (m : M (Option Int)) : TO := fun σ H Q => ∃ N F as env st, Rel c.K N F as env st σ H ∧ Post c N F as σ H (m env st) fun d _ _ F' as' H' => Q d H'
theorem _root_.L2.PO.imp {e : Option Expr} {t t' : TO} (h : PO X e t) (k : ∀ σ H Q, t' σ H Q → t σ H Q) : PO X e t' := ⟨fun pins s σ H Q I q => h.run pins s σ H Q I (k _ _ _ q)⟩
theorem o_none : PO X none (tOP c oNone) := po_none.imp fun σ H Q h => by
  obtain ⟨N, F, as, env, st, r0, p⟩ := h
  exact Post.here p r0
theorem o_some {A : M D} (h : PE X e (tE c A)) : PO X (some e) (tOP c (oPart A)) := (po_some h).imp fun σ H Q h => by
  obtain ⟨N, F, as, env, st, r0, p⟩ := h
  refine ⟨N, F, as, env, st, r0, (Post.bind p).mono fun x e s F1 as1 H1 r1 _ _ _ q1 v hv => ?_⟩
  match x, hv, q1 with
  | .int i, hv, q1 =>
    cases hv
    exact ⟨i, rfl, Post.here q1 r1⟩
theorem p_sl (hK : c.K = X.K) {lo hi : Option Expr} {p2 : Pos} {A : M D} {L U : M (Option Int)} (ha : PE X a (tB c A)) (hl : PO X lo (tOP c L)) (hu : PO X hi (tOP c U)) : PE X (.Subscript a (.Slice lo hi none p2) pos) (tP c (mSl A L U)) := by
  refine (pe_slice sl_B ha hl hu).imp fun σ H Q h => ?_
  obtain ⟨N, F, as, env, st, r0, p⟩ := h
  refine ⟨N, F, as, env, st, r0, (Post.bind p).mono fun x e s F1 as1 H1 r1 _ _ _ q1 v hv => ?_⟩
  refine ⟨N, F1, as1, e, s, r1, (Post.bind q1).mono fun l e s F2 as2 H2 r2 l2 p2 k2 q2 => ?_⟩
  refine ⟨N, F2, as2, e, s, r2, (Post.bind q2).mono fun u e s F3 as3 H3 r3 l3 p3 k3 q3 => ?_⟩
  have w := wants_of r3 q3
  rw [hK] at w
  exact o_sl F3 as3 H3 v _ l u Q r3.sub (by rw [← hK]; exact dr_rep r3 ((hv.mono l2 p2 k2).mono l3 p3 k3)) w
/-! built-ins -/
theorem p_bi {id : String} {x : Str} {p : Pos} {r : List V → Hp → VK → Prop} {f : List D → Option PV} {B : M (List D)} (hc : CallR X (.builtin id) r) (hp : PureN c.K r f) (hg : Gl X x) (hm : X.mg x = none) (hv : bootBuiltins x = some (.builtin id)) (ha : PA X (e :: es) (tAB c B)) (hs : noStars (e :: es) = true)
    (hn : x ≠ "__name__") (hdb : (x == ("__debug__" : Str)) = false) : PE X (.Call (.Name x p) (e :: es) [] pos) (tP c (mOpN f B)) := by
  have h2 := hs
  unfold noStars at h2
  rw [List.all_cons, Bool.and_eq_true] at h2
  exact (pe_callB hc hg hm hv ha hn hdb (star_cons h2.1) (stars_any h2.2)).imp fun _ _ _ => tP_opN hp
theorem p_ty {id : String} {x : Str} {p : Pos} {r : List V → Hp → VK → Prop} {f : List D → Option PV} {B : M (List D)} (hc : CallR X (.type id) r) (hp : PureN c.K r f) (hg : Gl X x) (hm : X.mg x = none) (hv : bootBuiltins x = some (.type id)) (ha : PA X (e :: es) (tAB c B)) (hs : noStars (e :: es) = true)
    (hn : x ≠ "__name__") (hdb : (x == ("__debug__" : Str)) = false) : PE X (.Call (.Name x p) (e :: es) [] pos) (tP c (mOpN f B)) := by
  have h2 := hs
  unfold noStars at h2
  rw [List.all_cons, Bool.and_eq_true] at h2
  exact (pe_callTy hc hg hm hv ha hn hdb (star_cons h2.1) (stars_any h2.2)).imp fun _ _ _ => tP_opN hp
end
end PD
/-! PD, part 7: functions and their calls -/
namespace PD
open PySem PySem.Spec PyProof.Rows L2

/-! ### promises with known guards -/
structure FnG (P : Program) (w : World) (K : PySem.W.Frag) (mg : Str → Option Value) (base : Heap) (CX : CXT) (k : Nat) (f : Addr) (fd : FuncData) (ps : List Str) (sp : Sp) : Prop where
  len : ∀ vs H Q E, sp vs H Q E → vs.length = ps.length
  run : ∀ (A : Around) (outer : List Env) (s : Shared) (H : Hp) (args : Args) (us : List Value) (vs : List V) (Q : VK) (E : XK), Room k A → A.guards = some [] → Env0 P w K mg base A outer s H →
    BindsTo s fd args (ps.zip us) → Vals vs us → sp vs H Q E → codeAny (model P w) A (.call (.ref f) args) (CR CX outer P w H s Q E) s
section
variable {X : Cx} {CX : CXT} {k : Nat} {f : Addr} {fd : FuncData} {ps ks : List Str} {sp : Sp} {E : XK} {x : Str} {p pos : Pos} {e : Expr} {es : List Expr} {t tk : TA} {kws : List Keyword}
/-- what a callee lets out is taken, at these slots -/
def PassAt (CX : CXT) (X : Cx) (σ : L2.St) (E : XK) : Prop := ∀ (pins : List (Addr × Obj)) (H : Hp) (s : Shared) (e : Value) (s' : Shared), Inv X pins σ H s → CX X.stack H s E e s' → X.xe e s'
def pick {α : Type} (perm : List Nat) (l : List α) : List α := perm.filterMap (l[·]?)
theorem Vals.pick {zs : List V} {ws : List Value} (h : Vals zs ws) : ∀ perm : List Nat, Vals (pick perm zs) (pick perm ws)
  | [] => .nil
  | i :: is => by
    unfold PD.pick
    cases e : zs[i]? with
    | none =>
      have e2 := Vals.none_of h e
      rw [List.filterMap_cons_none e, List.filterMap_cons_none e2]
      exact Vals.pick h is
    | some v =>
      obtain ⟨u, e2, r⟩ := Vals.get h e
      rw [List.filterMap_cons_some e, List.filterMap_cons_some e2]
      exact .cons r (Vals.pick h is)
/-- behind the callee -/
theorem came {pins : List (Addr × Obj)} {σ : L2.St} {H : Hp} {s s' : Shared} {Q : VK} {r : Result} (hx : PassAt CX X σ E) (I : Inv X pins σ H s) (h : CR CX X.stack X.prog X.w H s Q E r s') :
    match r with
    | .ok (.ret u) => EP X pins σ Q u s'
    | .ok _ => False
    | .error e => X.xe e s' := by
  match r, h with
  | .error e, h => exact hx pins H s e s' I h
  | .ok (.ret u), h => exact I.after h
  | .ok .next, h => exact h
  | .ok .brk, h => exact h
  | .ok .cont, h => exact h
theorem call_g {pins : List (Addr × Obj)} {σ : L2.St} {H : Hp} {s : Shared} {Q : VK} {us : List Value} {vs : List V} (F : FnG X.prog X.w X.K X.mg X.base CX k f fd ps sp) (hr : Room k X.A) (hG : X.A.guards = some []) (hb : Binds X.K fd ps []) (hx : PassAt CX X σ E)
    (I : Inv X pins σ H s) (r : Vals vs us) (h : sp vs H Q E) : wpAny (model X.prog X.w) X.A (call (.ref f) us) (EP X pins σ Q) X.xe s := by
  have hl : (us ++ ([] : List Value)).length = ps.length := by rw [List.append_nil, ← r.length]; exact F.len _ _ _ _ h
  have hb2 := hb s us I.kIn hl
  rw [List.append_nil] at hb2
  refine wpAny_call (codeAny_mono (F.run X.A X.stack s H ⟨us, []⟩ us vs Q E hr hG I.env0 hb2 r h) fun res s' hq => ?_)
  have h2 := came hx I hq
  cases res with
  | error e => exact h2
  | ok fl =>
    cases fl with
    | ret u => exact h2
    | next => exact h2.elim
    | brk => exact h2.elim
    | cont => exact h2.elim
theorem call_gk {pins : List (Addr × Obj)} {σ : L2.St} {H : Hp} {s : Shared} {Q : VK} {ws : List Value} {zs : List V} {perm : List Nat} (F : FnG X.prog X.w X.K X.mg X.base CX k f fd ps sp) (hr : Room k X.A) (hG : X.A.guards = some [])
    (hb : ∀ (s : Shared) (ws : List Value), X.K.In s.heap → ws.length = ks.length → BindsTo s fd ⟨[], ks.zip ws⟩ (ps.zip (pick perm ws))) (hx : PassAt CX X σ E) (I : Inv X pins σ H s) (rz : Vals zs ws) (hl : zs.length = ks.length) (h : sp (pick perm zs) H Q E) : wpAny (model X.prog X.w) X.A (call (.ref f) [] (ks.zip ws)) (EP X pins σ Q) X.xe s := by
  refine wpAny_call (codeAny_mono (F.run X.A X.stack s H ⟨[], ks.zip ws⟩ (pick perm ws) (pick perm zs) Q E hr hG I.env0 (hb s ws I.kIn (by rw [← rz.length]; exact hl)) (Vals.pick rz perm) h) fun res s' hq => ?_)
  have h2 := came hx I hq
  cases res with
  | error e => exact h2
  | ok fl =>
    cases fl with
    | ret u => exact h2
    | next => exact h2.elim
    | brk => exact h2.elim
    | cont => exact h2.elim
theorem pe_gk {E : L2.St → XK} {perm : List Nat} (F : FnG X.prog X.w X.K X.mg X.base CX k f fd ps sp) (hr : Room k X.A) (hG : X.A.guards = some []) (hg : Gl X x) (hm : X.mg x = some (.ref f)) (hk : PySem.W.keepIn X.K (.ref f) = true)
    (hb : ∀ (s : Shared) (ws : List Value), X.K.In s.heap → ws.length = ks.length → BindsTo s fd ⟨[], ks.zip ws⟩ (ps.zip (pick perm ws))) (hx : ∀ σ, PassAt CX X σ (E σ)) (hkw : PK X kws tk)
    (hall : (backToKw pos (keywordEach kws X.env)).all (·.1.isSome) = true) (hks : (backToKw pos (keywordEach kws X.env)).filterMap (·.1) = ks) (hpl : (backToKw pos (keywordEach kws X.env)).any (·.1.isNone) = false) (hdb : (x == ("__debug__" : Str)) = false) :
    PE X (.Call (.Name x p) [] kws pos) (fun σ H Q => tk σ H fun zs H1 => zs.length = ks.length ∧ sp (pick perm zs) H1 Q (E σ)) := by
  refine ⟨fun pins s σ H Q I hq => wpAny_Call_Name_kw (ld_glob I hg hm ?_ hdb)⟩
  refine PySem.W.callWith_KW0 (h₀ := X.base) I.ok.mod.kin hk hall ?_ (by rw [hpl]; rfl)
  refine thn (hkw.run pos pins s σ H _ I hq) fun ws s2 ⟨zs, H2, I2, rz, l1, q2⟩ => ⟨I2.kIn, ?_⟩
  rw [hks]
  exact call_gk F hr hG hb (hx σ) I2 rz l1 q2
theorem pe_g {E : L2.St → XK} (F : FnG X.prog X.w X.K X.mg X.base CX k f fd ps sp) (hr : Room k X.A) (hG : X.A.guards = some []) (hg : Gl X x) (hm : X.mg x = some (.ref f)) (hk : PySem.W.keepIn X.K (.ref f) = true) (hb : Binds X.K fd ps []) (hx : ∀ σ, PassAt CX X σ (E σ))
    (ha : PA X (e :: es) t) (hs : noStars (e :: es) = true) (hdb : (x == ("__debug__" : Str)) = false) : PE X (.Call (.Name x p) (e :: es) [] pos) (fun σ H Q => t σ H fun vs H1 => sp vs H1 Q (E σ)) := by
  have h2 := hs
  unfold noStars at h2
  rw [List.all_cons, Bool.and_eq_true] at h2
  refine ⟨fun pins s σ H Q I hq => wpAny_Call_Name_kw (ld_glob I hg hm ?_ hdb)⟩
  exact PySem.W.callWith_K (h₀ := X.base) I.ok.mod.kin hk (thn (ha.run pos pins s σ H _ I hq) fun us s1 ⟨vs, H1, I1, r, q⟩ => ⟨I1.kIn, call_g F hr hG hb (hx σ) I1 r q⟩) (star_cons h2.1) (stars_any h2.2)
theorem pe_g0 {E : L2.St → XK} (F : FnG X.prog X.w X.K X.mg X.base CX k f fd ps sp) (hr : Room k X.A) (hG : X.A.guards = some []) (hg : Gl X x) (hm : X.mg x = some (.ref f)) (hk : PySem.W.keepIn X.K (.ref f) = true) (hb : Binds X.K fd ps []) (hx : ∀ σ, PassAt CX X σ (E σ))
    (hdb : (x == ("__debug__" : Str)) = false) : PE X (.Call (.Name x p) [] [] pos) (fun σ H Q => sp [] H Q (E σ)) := by
  refine ⟨fun pins s σ H Q I hq => wpAny_Call_Name_kw (ld_glob I hg hm ?_ hdb)⟩
  exact PySem.W.callWith_K0 I.kIn hk (call_g (us := []) F hr hG hb (hx σ) I .nil hq)
end

/-- a def's promise by its body -/
theorem FnG.of {P : Program} {w : World} {K : PySem.W.Frag} {mg : Str → Option Value} {base : Heap} {CX : CXT} {x qual : Str} {def_ : Stmt} {f : Addr} {fd : FuncData} {NN ps : List Str} {k : Nat} {sp : Sp} (F : Fun K x qual def_ f fd) (S : FnScope NN ps (defScope def_)) (hl : ∀ vs H Q E, sp vs H Q E → vs.length = ps.length)
    (hb : ∀ (cd : Value) (A : Around) (outer : List Env) (s : Shared) (H : Hp) (vs : List V) (Q : VK) (E : XK), Room k (A.deeper (envOfC qual (defScope def_) s.heap.objs.size f cd)) → A.guards = some [] → sp vs H Q E →
      ∃ t, PSs (cxOf CX P w K mg base NN qual (defScope def_) f cd A outer s H E) (defBody def_) t ∧ t { nx := fun _ H' => Q .non H', rt := Q } (L2.start NN vs) H) : FnG P w K mg base CX (k + 1) f fd ps sp := by
  obtain ⟨oc, od, kV, doc, pm, an, cd, ct, osl, e, lk, hcd⟩ := F.ex
  subst e
  refine ⟨hl, fun A outer s H args us vs Q E room hG e0 hbind r hsp => ?_⟩
  have lv := hl _ _ _ _ hsp
  have inH : K.In s.heap := e0.mod.kin.keeps fun b o q => (e0.bs b o q).1
  have nolim : s.heap.NoLimit := e0.mod.nolimit.keeps fun b o q => (e0.bs b o q).1
  refine codeAny_call_function room.depth (inH _ _ lk) rfl S.co S.gen rfl (PySem.W.codeRec_of inH hcd) (hbind _ _ _ _ ?_)
  have kinds : ∀ y ∈ ps.zip us, (defScope def_).names.lookup y.1 = some .local ∨ ((defScope def_).names.lookup y.1 = some .cell ∧ ((cellsFrom (s.heap.objs.size + 1) (defScope def_).names []).lookup y.1).isSome = true) := fun y hy => by
    have hm : y.1 ∈ ps := (List.of_mem_zip (show (y.1, y.2) ∈ ps.zip us from hy)).1
    cases S.par y.1 hm with
    | inl q => exact .inl q
    | inr q => exact .inr ⟨q, PySem.W.cellsFrom_some _ _ _ (.inl q)⟩
  refine wpAny_newFunctionEnv_cells S.kind kinds fun env he s1 ic => ?_
  subst he
  refine ⟨nolim.keeps ic.toInCall.keep, codeAny_func ?_⟩
  obtain ⟨t, ht, hq⟩ := hb cd A outer s H vs Q E (room.deeper _) hG hsp
  have I := inv_start (CX := CX) (E := E) S room.hd e0 lv r ic
  refine wpAny_mono (ht.run [] s1 _ H _ I hq) (fun fl s' hs => ?_) fun _ _ hs => hs
  cases fl with
  | ret u =>
    obtain ⟨v, σ', H', J, rv, q⟩ := hs
    exact ⟨v, H', J.os, J.bare, J.base, J.hok, rv, q⟩
  | next =>
    obtain ⟨σ', H', J, q⟩ := hs
    exact ⟨.non, H', J.os, J.bare, J.base, J.hok, rfl, q⟩
  | brk =>
    obtain ⟨σ', H', J, q⟩ := hs
    exact q.elim
  | cont =>
    obtain ⟨σ', H', J, q⟩ := hs
    exact q.elim

/-! ### a def as a function of data -/
inductive FR where
  | ok (d : D) (s : Sto) | exc (x : Ex) (s : Sto) | bad
abbrev Fn := List D → Sto → FR
/-- what holds at a def's ends -/
structure Bd (K : PySem.W.Frag) (F : Hp) (as : List Addr) (st : Sto) (H : Hp) : Prop where
  sub : Le F H
  slen : as.length = st.length
  sto : ∀ (n : Nat) (xs : List D), st[n]? = some xs → ∃ a vs, as[n]? = some a ∧ H a = some (.lst vs) ∧ RepL K (fun _ => none) as vs xs
  snd : as.Nodup
  sfr : ∀ a ∈ as, F a = none
/-- others' objects stay others' -/
def Gap (F : Hp) (as : List Addr) (H : Hp) (F' : Hp) (as' : List Addr) (H' : Hp) : Prop := ∀ a o, H a = some o → F a = none → a ∉ as → H' a = some o ∧ F' a = none ∧ a ∉ as'
def FPost (K : PySem.W.Frag) (XR : Hp → List Addr → Hp → Ex → Value → Option Addr → Prop) (F : Hp) (as : List Addr) (H : Hp) (Q : VK) (E : XK) : FR → Prop
  | .ok d st => ∀ v F' as' H', Bd K F' as' st H' → Le F F' → Pre as as' → Gap F as H F' as' H' → Rep K F' as' v d → Q v H'
  | .exc x st => ∀ F' as' H' cls dx, Bd K F' as' st H' → Le F F' → Pre as as' → Gap F as H F' as' H' → XR F' as' H' x cls dx → E cls dx H'
  | .bad => False
def spF (K : PySem.W.Frag) (XR : Hp → List Addr → Hp → Ex → Value → Option Addr → Prop) (n : Nat) (fn : Fn) : Sp := fun vs H Q E => vs.length = n ∧ ∃ F as st ds, Bd K F as st H ∧ RepL K F as vs ds ∧ FPost K XR F as H Q E (fn ds st)

theorem Rel.bd {K : PySem.W.Frag} {N : Addr → Prop} {F : Hp} {as : List Addr} {env : En} {st : Sto} {σ : L2.St} {H : Hp} (r : Rel K N F as env st σ H) : Bd K F as st H := ⟨r.sub, r.slen, r.sto, r.snd, r.sfr⟩
/-- a call from a body: the caller's state behind it -/
theorem Rel.after {K : PySem.W.Frag} {N : Addr → Prop} {F F' : Hp} {as as' : List Addr} {env : En} {st st' : Sto} {σ : L2.St} {H H' : Hp} (r : Rel K N F as env st σ H) (b : Bd K F' as' st' H') (hF : Le F F') (ha : Pre as as') (g : Gap F as H F' as' H') :
    Rel K N F' as' env st' σ H' ∧ Kp as as' H H' := by
  refine ⟨⟨b.sub, r.len, fun i d e => ?_, fun i o e => ?_, b.slen, b.sto, b.snd, b.sfr, fun a n => ?_⟩, fun a o e m => ?_, fun a m k => ?_⟩
  · obtain ⟨v, h1, h2⟩ := r.val i d e
    exact ⟨v, h1, h2.mono hF ha⟩
  · obtain ⟨p, ho, h1, h2, h3, h4, h5, h6, h7⟩ := r.own i o e
    obtain ⟨g1, g2, g3⟩ := g p ho h2 h4 h5
    exact ⟨p, ho, h1, g1, h3.mono hF ha, g2, g3, h6, h7⟩
  · obtain ⟨h1, h2, o, h3⟩ := r.out a n
    obtain ⟨g1, g2, g3⟩ := g a o h3 h1 h2
    exact ⟨g2, g3, o, g1⟩
  · cases q : F a with
    | none => exact (g a o e q m).1
    | some u =>
      have z := r.sub a u q
      rw [e] at z
      cases z
      exact b.sub a o (hF a o q)
  · cases q : H a with
    | none => rfl
    | some o =>
      cases z : F a with
      | none => exact absurd m (g a o q z k).2.2
      | some u =>
        have := b.sfr a m
        rw [hF a u z] at this
        cases this

def callM (n : Nat) (fn : Fn) (ds : List D) : M D := fun e s => if ds.length = n then match fn ds s with
    | .ok d s' => .ok d e s'
    | .exc x s' => .exc x e s'
    | .bad => .bad
  else .bad
def eCall (n : Nat) (fn : Fn) (m : M (List D)) : M D := bnd m (callM n fn)
def callK (n : Nat) (fn : Fn) (kn : Nat) (perm : List Nat) (ds : List D) : M D := fun e s => if ds.length = kn then callM n fn (pick perm ds) e s else .bad
def eCallK (n : Nat) (fn : Fn) (kn : Nat) (perm : List Nat) (m : M (List D)) : M D := bnd m (callK n fn kn perm)
/-- scalars: they stand by themselves -/
def scal1 : D → Bool
  | .non => true
  | .bl _ => true
  | .int _ => true
  | .str _ => true
  | .ref _ => true
  | _ => false
/-- what an exception of a callee wants in the caller -/
def EW (c : Cc) (σ : L2.St) : XK := fun cls d H => c.W cls d σ H
theorem RepL.pick {K : PySem.W.Frag} {F : Hp} {as : List Addr} {vs : List V} {ds : List D} (h : RepL K F as vs ds) : ∀ perm : List Nat, RepL K F as (PD.pick perm vs) (PD.pick perm ds)
  | [] => .nil
  | i :: is => by
    unfold PD.pick
    cases e : vs[i]? with
    | none =>
      have e2 : ds[i]? = none := by
        rw [List.getElem?_eq_none_iff] at e ⊢
        rw [← h.len]
        exact e
      rw [List.filterMap_cons_none e, List.filterMap_cons_none e2]
      exact h.pick is
    | some v =>
      obtain ⟨u, e2, r⟩ := h.getV e
      rw [List.filterMap_cons_some e, List.filterMap_cons_some e2]
      exact .cons r (h.pick is)
section
variable {X : Cx} {c : Cc} {σ : L2.St} {H : Hp} {Q : VK}
theorem call_sp {N : Addr → Prop} {F : Hp} {as : List Addr} {env : En} {st : Sto} {fn : Fn} {n : Nat} {vs : List V} {ds : List D} (r1 : Rel c.K N F as env st σ H) (hv : RepL c.K F as vs ds) (q1 : Post c N F as σ H (callM n fn ds env st) fun d _ _ F' as' H' => ∀ v, Rep c.K F' as' v d → Q v H') :
    spF c.K c.XR n fn vs H Q (EW c σ) := by
  unfold callM at q1
  by_cases hn : ds.length = n
  · rw [if_pos hn] at q1
    refine ⟨hv.len.trans hn, F, as, st, ds, r1.bd, hv, ?_⟩
    cases z : fn ds st with
    | ok d s' =>
      rw [z] at q1
      intro v F' as' H' b l pr g hr
      obtain ⟨r2, k2⟩ := r1.after b l pr g
      exact q1 F' as' H' r2 l pr k2 v hr
    | exc x s' =>
      rw [z] at q1
      intro F' as' H' cls dx b l pr g hr
      obtain ⟨r2, k2⟩ := r1.after b l pr g
      exact q1 F' as' H' cls dx r2 l pr k2 hr
    | bad => rw [z] at q1; exact q1.elim
  · rw [if_neg hn] at q1
    exact q1.elim
theorem tE_call {fn : Fn} {m : M (List D)} {n : Nat} (h : tE c (eCall n fn m) σ H Q) : tA c m σ H fun vs H1 => spF c.K c.XR n fn vs H1 Q (EW c σ) := by
  obtain ⟨N, F, as, env, st, r0, p⟩ := h
  exact ⟨N, F, as, env, st, r0, (Post.bind p).mono fun ds e s F1 as1 H1 r1 _ _ _ q1 vs hv => call_sp r1 hv q1⟩
theorem tE_callK {fn : Fn} {m : M (List D)} {n kn : Nat} {perm : List Nat} (h : tE c (eCallK n fn kn perm m) σ H Q) : tA c m σ H fun zs H1 => zs.length = kn ∧ spF c.K c.XR n fn (pick perm zs) H1 Q (EW c σ) := by
  obtain ⟨N, F, as, env, st, r0, p⟩ := h
  refine ⟨N, F, as, env, st, r0, (Post.bind p).mono fun ds e s F1 as1 H1 r1 _ _ _ q1 vs hv => ?_⟩
  unfold callK at q1
  by_cases hn : ds.length = kn
  · rw [if_pos hn] at q1
    exact ⟨hv.len.trans hn, call_sp r1 (hv.pick perm) q1⟩
  · rw [if_neg hn] at q1
    exact q1.elim
theorem tE_call0 {fn : Fn} (h : tE c (eCall 0 fn aNil) σ H Q) : spF c.K c.XR 0 fn [] H Q (EW c σ) := by
  obtain ⟨N, F, as, env, st, r0, p⟩ := h
  have q := Post.here (Post.bind p : Post c N F as σ H (ret [] env st) _) r0
  exact call_sp r0 .nil q
end

/-! ### a def's body -/
inductive Flw where
  | nx | rt (d : D) | bk | ct
abbrev SM := M Flw
/-- kept through statements -/
structure Ks (N : Addr → Prop) (H H' : Hp) : Prop where
  keep : ∀ a, N a → H' a = H a
theorem Ks.refl (N : Addr → Prop) (H : Hp) : Ks N H H := ⟨fun _ _ => rfl⟩
theorem Ks.trans {N : Addr → Prop} {H H1 H2 : Hp} (a : Ks N H H1) (b : Ks N H1 H2) : Ks N H H2 := ⟨fun x n => (b.keep x n).trans (a.keep x n)⟩
theorem Kp.ks {K : PySem.W.Frag} {N : Addr → Prop} {F : Hp} {as as' : List Addr} {env : En} {st : Sto} {σ : L2.St} {H H' : Hp} (r : Rel K N F as env st σ H) (k : Kp as as' H H') : Ks N H H' := ⟨fun a n => by
  obtain ⟨_, h2, o, h3⟩ := r.out a n
  rw [h3]
  exact k.keep a o h3 h2⟩
def PostS (c : Cc) (N : Addr → Prop) (F : Hp) (as : List Addr) (H : Hp) (D : Ends) : Res Flw → Prop
  | .ok .nx env st => ∀ σ' F' as' H', Rel c.K N F' as' env st σ' H' → Le F F' → Pre as as' → Ks N H H' → D.nx σ' H'
  | .ok (.rt d) env st => ∀ σ' F' as' H' v, Rel c.K N F' as' env st σ' H' → Le F F' → Pre as as' → Ks N H H' → Rep c.K F' as' v d → D.rt v H'
  | .ok .bk env st => ∀ σ' F' as' H', Rel c.K N F' as' env st σ' H' → Le F F' → Pre as as' → Ks N H H' → D.bk σ' H'
  | .ok .ct env st => ∀ σ' F' as' H', Rel c.K N F' as' env st σ' H' → Le F F' → Pre as as' → Ks N H H' → D.ct σ' H'
  | .exc x env st => ∀ σ' F' as' H' cls dx, Rel c.K N F' as' env st σ' H' → Le F F' → Pre as as' → Ks N H H' → c.XR F' as' H' x cls dx → c.W cls dx σ' H'
  | .bad => False
def tS (c : Cc) (m : SM) : TS := fun D σ H => ∃ N F as env st, Rel c.K N F as env st σ H ∧ PostS c N F as H D (m env st)
theorem PostS.rebase {c : Cc} {N : Addr → Prop} {F F' : Hp} {as as' : List Addr} {H H' : Hp} {D : Ends} {r : Res Flw} (h : PostS c N F as H D r) (hF : Le F F') (ha : Pre as as') (hK : Ks N H H') : PostS c N F' as' H' D r := by
  match r, h with
  | .ok .nx env st, h => exact fun σ2 F2 as2 H2 r1 r2 r3 r4 => h σ2 F2 as2 H2 r1 (hF.trans r2) (ha.trans r3) (hK.trans r4)
  | .ok (.rt d) env st, h => exact fun σ2 F2 as2 H2 v r1 r2 r3 r4 => h σ2 F2 as2 H2 v r1 (hF.trans r2) (ha.trans r3) (hK.trans r4)
  | .ok .bk env st, h => exact fun σ2 F2 as2 H2 r1 r2 r3 r4 => h σ2 F2 as2 H2 r1 (hF.trans r2) (ha.trans r3) (hK.trans r4)
  | .ok .ct env st, h => exact fun σ2 F2 as2 H2 r1 r2 r3 r4 => h σ2 F2 as2 H2 r1 (hF.trans r2) (ha.trans r3) (hK.trans r4)
  | .exc x env st, h => exact fun σ2 F2 as2 H2 cls dx r1 r2 r3 r4 => h σ2 F2 as2 H2 cls dx r1 (hF.trans r2) (ha.trans r3) (hK.trans r4)
def ini (n : Nat) (ds : List D) : En := ds.map .val ++ List.replicate (n - ds.length) .un
def fnOf (n : Nat) (body : SM) : Fn := fun ds st => match body (ini n ds) st with
  | .ok (.rt d) _ s => .ok d s
  | .ok .nx _ s => .ok .non s
  | .ok _ _ _ => .bad
  | .exc x _ s => .exc x s
  | .bad => .bad
theorem ini_rel {K : PySem.W.Frag} {F : Hp} {as : List Addr} {st : Sto} {H : Hp} {NN : List Str} {vs : List V} {ds : List D} (b : Bd K F as st H) (r : RepL K F as vs ds) :
    Rel K (fun a => (∃ o, H a = some o) ∧ F a = none ∧ a ∉ as) F as (ini NN.length ds) st (L2.start NN vs) H := by
  have hl := r.len
  refine ⟨b.sub, ?_, fun i d e => ?_, fun i o e => ?_, b.slen, b.sto, b.snd, b.sfr, fun a n => ⟨n.2.1, n.2.2, n.1⟩⟩
  · unfold ini L2.start
    rw [List.length_append, List.length_append, List.length_map, List.length_map, List.length_replicate, List.length_replicate, hl]
  · unfold ini at e
    by_cases h : i < ds.length
    · rw [List.getElem?_append_left (by rw [List.length_map]; exact h), List.getElem?_map] at e
      cases q : ds[i]? with
      | none => rw [q] at e; cases e
      | some d' =>
        rw [q] at e
        cases e
        obtain ⟨v, h1, h2⟩ := r.get q
        refine ⟨v, ?_, h2⟩
        unfold L2.start
        rw [List.getElem?_append_left (by rw [List.length_map, hl]; exact h), List.getElem?_map, h1]
        rfl
    · rw [List.getElem?_append_right (by rw [List.length_map]; omega), List.getElem?_replicate] at e
      split at e <;> cases e
  · unfold ini at e
    by_cases h : i < ds.length
    · rw [List.getElem?_append_left (by rw [List.length_map]; exact h), List.getElem?_map] at e
      cases q : ds[i]? with
      | none => rw [q] at e; cases e
      | some d' => rw [q] at e; cases e
    · rw [List.getElem?_append_right (by rw [List.length_map]; omega), List.getElem?_replicate] at e
      split at e <;> cases e
theorem rel_gap {K : PySem.W.Frag} {F F' : Hp} {as as' : List Addr} {env : En} {st : Sto} {σ : L2.St} {H H' : Hp} (r : Rel K (fun a => (∃ o, H a = some o) ∧ F a = none ∧ a ∉ as) F' as' env st σ H') (k : Ks (fun a => (∃ o, H a = some o) ∧ F a = none ∧ a ∉ as) H H') : Gap F as H F' as' H' := fun a o e f m => by
  have n : (∃ o, H a = some o) ∧ F a = none ∧ a ∉ as := ⟨⟨o, e⟩, f, m⟩
  obtain ⟨h1, h2, _⟩ := r.out a n
  exact ⟨(k.keep a n).trans e, h1, h2⟩
theorem body_ok {c : Cc} {NN : List Str} {n : Nat} {body : SM} {vs : List V} {H : Hp} {Q : VK} {E : XK} (hW : ∀ cls dx σ H, E cls dx H → c.W cls dx σ H) (h : spF c.K c.XR n (fnOf NN.length body) vs H Q E) :
    tS c body { nx := fun _ H' => Q .non H', rt := Q } (L2.start NN vs) H := by
  obtain ⟨_, F, as, st, ds, b, r, p⟩ := h
  refine ⟨_, F, as, _, st, ini_rel b r, ?_⟩
  unfold fnOf at p
  cases z : body (ini NN.length ds) st with
  | ok f env s =>
    rw [z] at p
    cases f with
    | nx => exact fun σ' F' as' H' r' l pr k => p .non F' as' H' r'.bd l pr (rel_gap r' k) .non
    | rt d => exact fun σ' F' as' H' v r' l pr k hv => p v F' as' H' r'.bd l pr (rel_gap r' k) hv
    | bk => exact p.elim
    | ct => exact p.elim
  | exc x env s =>
    rw [z] at p
    exact fun σ' F' as' H' cls dx r' l pr k hx => hW _ _ _ _ (p F' as' H' cls dx r'.bd l pr (rel_gap r' k) hx)
  | bad => rw [z] at p; exact p.elim
end PD
/-! PD, part 8: statements -/
namespace PD
open PySem PySem.Spec PyProof.Rows L2

/-! ### slots -/
def slOf : PR → Sl
  | .fro d => .val d
  | .new o => .own o
section
variable {c : Cc} {N : Addr → Prop} {F : Hp} {as : List Addr} {env : En} {st : Sto} {σ : L2.St} {H : Hp}
theorem Rel.setSlot (r : Rel c.K N F as env st σ H) {i : Nat} (hi : i < σ.length) {v : V} {p : PR} (h : RepP c.K N F as env σ H v p) : Rel c.K N F as (env.set i (slOf p)) st (σ.set i (some v)) H := by
  refine ⟨r.sub, by rw [List.length_set, List.length_set]; exact r.len, fun j d e => ?_, fun j o e => ?_, r.slen, r.sto, r.snd, r.sfr, r.out⟩
  · rcases get_set e with ⟨rfl, z⟩ | ⟨nj, q⟩
    · cases p with
      | fro d' => cases z; exact ⟨v, by rw [List.getElem?_set_self hi], h⟩
      | new o => cases z
    · obtain ⟨w, h1, h2⟩ := r.val j d q
      exact ⟨w, by rw [List.getElem?_set_ne (fun z => nj z.symm)]; exact h1, h2⟩
  · rcases get_set e with ⟨rfl, z⟩ | ⟨nj, q⟩
    · cases p with
      | fro d' => cases z
      | new o' =>
        cases z
        obtain ⟨a, ho, rfl, h1, h2, h3, h4, h5, h6⟩ := h
        refine ⟨a, ho, by rw [List.getElem?_set_self hi], h1, h2, h3, h4, h5, fun j' o'' q' z' => ?_⟩
        rcases get_set q' with ⟨rfl, _⟩ | ⟨nj', q'⟩
        · rfl
        · rw [List.getElem?_set_ne (fun z => nj' z.symm)] at z'
          exact absurd z' (h6 j' o'' q')
    · obtain ⟨a, ho, h1, h2, h3, h4, h5, h6, h7⟩ := r.own j o q
      refine ⟨a, ho, by rw [List.getElem?_set_ne (fun z => nj z.symm)]; exact h1, h2, h3, h4, h5, h6, fun j' o'' q' z' => ?_⟩
      rcases get_set q' with ⟨rfl, z2⟩ | ⟨nj', q'⟩
      · rw [List.getElem?_set_self hi] at z'
        cases z'
        cases p with
        | fro d' => cases z2
        | new o' =>
          obtain ⟨a', ho', e1, _, _, _, _, _, h8⟩ := h
          cases e1
          exact absurd h1 (h8 j o q)
      · rw [List.getElem?_set_ne (fun z => nj' z.symm)] at z'
        exact h7 j' o'' q' z'
theorem Rel.write (r : Rel c.K N F as env st σ H) {i : Nat} {o o' : OD} {p : Addr} {ho' : HO} (e : env[i]? = some (.own o)) (hp : σ[i]? = some (some (.ref p))) (h : RepO c.K F as ho' o') :
    Rel c.K N F as (env.set i (.own o')) st σ (upd H p ho') ∧ Ks N H (upd H p ho') := by
  obtain ⟨q, ho, h1, h2, h3, h4, h5, h6, h7⟩ := r.own i o e
  rw [hp] at h1
  cases h1
  have hi : i < env.length := (List.getElem?_eq_some_iff.mp e).1
  refine ⟨⟨fun a u z => ?_, by rw [List.length_set]; exact r.len, fun j d z => ?_, fun j od z => ?_, r.slen, fun n xs z => ?_, r.snd, r.sfr, fun a n => ?_⟩, ⟨fun a n => ?_⟩⟩
  · rw [upd_ne (ne_of_none z h4)]
    exact r.sub a u z
  · rcases get_set z with ⟨_, z⟩ | ⟨_, z⟩
    · cases z
    · exact r.val j d z
  · rcases get_set z with ⟨rfl, z1⟩ | ⟨nj, z⟩
    · cases z1
      refine ⟨p, ho', hp, upd_same, h, h4, h5, h6, fun j' o'' q' z' => ?_⟩
      rcases get_set q' with ⟨rfl, _⟩ | ⟨nj', q'⟩
      · rfl
      · exact h7 j' o'' q' z'
    · obtain ⟨a, hoa, k1, k2, k3, k4, k5, k6, k7⟩ := r.own j od z
      refine ⟨a, hoa, k1, ?_, k3, k4, k5, k6, fun j' o'' q' z' => ?_⟩
      · rw [upd_ne (fun w => nj (h7 j od z (by rw [k1, w])))]
        exact k2
      · rcases get_set q' with ⟨rfl, _⟩ | ⟨nj', q'⟩
        · exact k7 j' o e z'
        · exact k7 j' o'' q' z'
  · obtain ⟨a, vs, k1, k2, k3⟩ := r.sto n xs z
    refine ⟨a, vs, k1, ?_, k3⟩
    rw [upd_ne (show a ≠ p from fun w => h5 (w ▸ List.mem_of_getElem? k1))]
    exact k2
  · obtain ⟨k1, k2, u, k3⟩ := r.out a n
    refine ⟨k1, k2, u, ?_⟩
    rw [upd_ne (show a ≠ p from fun w => h6 (w ▸ n))]
    exact k3
  · rw [upd_ne (show a ≠ p from fun w => h6 (w ▸ n))]
/-- a cell of the store is written -/
theorem Rel.swrite (r : Rel c.K N F as env st σ H) {n : Nat} {xs : List D} {p : Addr} {us : List V} (hn : n < st.length) (hp : as[n]? = some p) (h : RepL c.K (fun _ => none) as us xs) :
    Rel c.K N F as env (st.set n xs) σ (upd H p (.lst us)) ∧ Ks N H (upd H p (.lst us)) := by
  have hm : p ∈ as := List.mem_of_getElem? hp
  refine ⟨⟨fun a u z => ?_, r.len, r.val, fun j od z => ?_, by rw [List.length_set]; exact r.slen, fun m ys z => ?_, r.snd, r.sfr, fun a n => ?_⟩, ⟨fun a n => ?_⟩⟩
  · rw [upd_ne (ne_of_none z (r.sfr p hm))]
    exact r.sub a u z
  · obtain ⟨a, hoa, k1, k2, k3, k4, k5, k6, k7⟩ := r.own j od z
    refine ⟨a, hoa, k1, ?_, k3, k4, k5, k6, k7⟩
    rw [upd_ne (show a ≠ p from fun w => k5 (w ▸ hm))]
    exact k2
  · rcases get_set z with ⟨rfl, z1⟩ | ⟨nj, z⟩
    · cases z1
      exact ⟨p, us, hp, upd_same, h⟩
    · obtain ⟨a, vs, k1, k2, k3⟩ := r.sto m ys z
      refine ⟨a, vs, k1, ?_, k3⟩
      have hml : m < as.length := (List.getElem?_eq_some_iff.mp k1).1
      have hnl : n < as.length := (List.getElem?_eq_some_iff.mp hp).1
      rw [upd_ne (fun w => nj ?_)]
      · exact k2
      · subst w
        exact (List.getElem?_inj hml r.snd).mp (k1.trans hp.symm)
  · obtain ⟨k1, k2, u, k3⟩ := r.out a n
    refine ⟨k1, k2, u, ?_⟩
    rw [upd_ne (show a ≠ p from fun w => k2 (w ▸ hm))]
    exact k3
  · obtain ⟨k1, k2, _⟩ := r.out a n
    rw [upd_ne (show a ≠ p from fun w => k2 (w ▸ hm))]
end

/-! ### blocks -/
def sNil : SM := ret .nx
def seqF (b : SM) : Flw → SM
  | .nx => b
  | f => ret f
def sSeq (a b : SM) : SM := bnd a (seqF b)
def sIf (t : M Bool) (a b : SM) : SM := bnd t fun k => if k then a else b
def sRet (m : M D) : SM := bnd m fun d => ret (.rt d)
def sRetN : SM := ret (.rt .non)
def sBrk : SM := ret .bk
def sCnt : SM := ret .ct
def setM (i : Nat) (p : PR) : SM := fun e s => .ok .nx (e.set i (slOf p)) s
def sSet (i : Nat) (m : M PR) : SM := bnd m (setM i)

section
variable {c : Cc} {D : Ends} {σ : L2.St} {H : Hp}
/-- from an expression into a statement -/
theorem PostS.bind {α : Type} {N : Addr → Prop} {F : Hp} {as : List Addr} {env : En} {st : Sto} {m : M α} {k : α → SM} (r : Rel c.K N F as env st σ H) (h : PostS c N F as H D (bnd m k env st)) :
    Post c N F as σ H (m env st) fun a env1 st1 F1 as1 H1 => PostS c N F1 as1 H1 D (k a env1 st1) := by
  unfold bnd at h
  cases e : m env st with
  | ok a e s =>
    rw [e] at h
    exact fun F1 as1 H1 r1 r2 r3 r4 => h.rebase r2 r3 (r4.ks r)
  | exc x e s =>
    rw [e] at h
    exact fun F1 as1 H1 cls dx r1 r2 r3 r4 => h σ F1 as1 H1 cls dx r1 r2 r3 (r4.ks r)
  | bad => rw [e] at h; exact h
theorem tS_nil (h : tS c sNil D σ H) : tNext D σ H := by
  obtain ⟨N, F, as, env, st, r, p⟩ := h
  exact p σ F as H r (Le.refl _) (Pre.refl _) (Ks.refl _ _)
theorem tS_seq {a b : SM} (h : tS c (sSeq a b) D σ H) : tSeq (tS c a) (tS c b) D σ H := by
  obtain ⟨N, F, as, env, st, r, p⟩ := h
  refine ⟨N, F, as, env, st, r, ?_⟩
  unfold sSeq bnd at p
  cases z : a env st with
  | ok f e s =>
    rw [z] at p
    cases f with
    | nx => exact fun σ' F' as' H' r' l pr k => ⟨N, F', as', e, s, r', p.rebase l pr k⟩
    | rt d => exact p
    | bk => exact p
    | ct => exact p
  | exc x e s => rw [z] at p; exact p
  | bad => rw [z] at p; exact p
theorem tS_if {t : M Bool} {a b : SM} (h : tS c (sIf t a b) D σ H) : tIfS (tT c t) (tS c a) (tS c b) D σ H := by
  obtain ⟨N, F, as, env, st, r, p⟩ := h
  refine ⟨N, F, as, env, st, r, (PostS.bind r p).mono fun k e s F1 as1 H1 r1 _ _ _ q => ?_⟩
  cases k with
  | true => rw [if_pos rfl] at q ⊢; exact ⟨N, F1, as1, e, s, r1, q⟩
  | false => rw [if_neg Bool.false_ne_true] at q ⊢; exact ⟨N, F1, as1, e, s, r1, q⟩
theorem tS_ret {m : M PD.D} (h : tS c (sRet m) D σ H) : tRet (tE c m) D σ H := by
  obtain ⟨N, F, as, env, st, r, p⟩ := h
  exact ⟨N, F, as, env, st, r, (PostS.bind r p).mono fun d e s F1 as1 H1 r1 _ _ _ q v hv => q σ F1 as1 H1 v r1 (Le.refl _) (Pre.refl _) (Ks.refl _ _) hv⟩
theorem tS_retN (h : tS c sRetN D σ H) : tRetN D σ H := by
  obtain ⟨N, F, as, env, st, r, p⟩ := h
  exact p σ F as H .non r (Le.refl _) (Pre.refl _) (Ks.refl _ _) .non
theorem tS_brk (h : tS c sBrk D σ H) : tBreak D σ H := by
  obtain ⟨N, F, as, env, st, r, p⟩ := h
  exact p σ F as H r (Le.refl _) (Pre.refl _) (Ks.refl _ _)
theorem tS_cnt (h : tS c sCnt D σ H) : tCont D σ H := by
  obtain ⟨N, F, as, env, st, r, p⟩ := h
  exact p σ F as H r (Le.refl _) (Pre.refl _) (Ks.refl _ _)
theorem tS_set {i : Nat} {m : M PR} (hi : i < σ.length) (h : tS c (sSet i m) D σ H) : tAsg (tP c m) (gName i) D σ H := by
  obtain ⟨N, F, as, env, st, r, p⟩ := h
  exact ⟨N, F, as, env, st, r, (PostS.bind r p).mono fun d e s F1 as1 H1 r1 _ _ _ q v hv => q _ F1 as1 H1 (r1.setSlot hi hv) (Le.refl _) (Pre.refl _) (Ks.refl _ _)⟩
end

/-- in a body the slots are as many as the names -/
theorem _root_.L2.PS.lenImp {X : Cx} {e : Stmt} {t t' : TS} (h : PS X e t) (k : ∀ D σ H, σ.length = X.N.length → t' D σ H → t D σ H) : PS X e t' := ⟨fun pins s σ H D I q => h.run pins s σ H D I (k _ _ _ I.len q)⟩
section
variable {X : Cx} {c : Cc} {pos : Pos} {e : Expr} {es : List Expr}
theorem s_nil : PSs X [] (tS c sNil) := pss_nil.imp fun _ _ _ => tS_nil
theorem s_seq {a : Stmt} {b : List Stmt} {A B : SM} (ha : PS X a (tS c A)) (hb : PSs X b (tS c B)) : PSs X (a :: b) (tS c (sSeq A B)) := (pss_cons ha hb).imp fun _ _ _ => tS_seq
theorem s_if {t : Expr} {a b : List Stmt} {T : M Bool} {A B : SM} (ht : PT X t (tT c T)) (ha : PSs X a (tS c A)) (hb : PSs X b (tS c B)) : PS X (.If t a b pos) (tS c (sIf T A B)) := (ps_if ht ha hb).imp fun _ _ _ => tS_if
theorem s_ret {A : M D} (h : PE X e (tE c A)) : PS X (.Return (some e) pos) (tS c (sRet A)) := (ps_ret h).imp fun _ _ _ => tS_ret
theorem s_retN : PS X (.Return none pos) (tS c sRetN) := ps_retN.imp fun _ _ _ => tS_retN
theorem s_brk : PS X (.Break pos) (tS c sBrk) := ps_break.imp fun _ _ _ => tS_brk
theorem s_cnt : PS X (.Continue pos) (tS c sCnt) := ps_continue.imp fun _ _ _ => tS_cnt
/-- a value that is no comprehension -/
def noComp : Expr → Bool
  | .ListComp _ _ _ _ => false
  | .SetComp _ _ _ _ => false
  | .DictComp _ _ _ _ _ => false
  | _ => true
theorem no_swap (h : noComp e = true) (t : Option Expr) (l : Nat) (env : Env) : swapsWith e t l env = pure false := by
  cases e <;> first | rfl | cases h
theorem lt_of_get {α : Type} {l : List α} {i : Nat} {a : α} (h : l[i]? = some a) : i < l.length := (List.getElem?_eq_some_iff.mp h).1
theorem s_set {i : Nat} {x : Str} {pos' : Pos} {A : M PR} (hN : X.N.Nodup) (hi : X.N[i]? = some x) (hx : Loc X.env.scope x) (hf : X.fn x = true ∨ X.env.scope.names.lookup x = some .local) (h : PE X e (tP c A)) (hc : swapsWith e (some (.Name x pos')) pos.line X.env = pure false) :
    PS X (.Assign [.Name x pos'] e pos) (tS c (sSet i A)) := (ps_set hN hi hx h hc hf).lenImp fun D σ H l => tS_set (by rw [l]; exact lt_of_get hi)
end

/-! ### targets -/
abbrev TgF := D → En → Option En
def gT (c : Cc) (slots : List Nat) (f : TgF) : TG := fun v σ H Q => ∃ N F as env st d env', Rel c.K N F as env st σ H ∧ Rep c.K F as v d ∧ f d env = some env' ∧
  ∀ σ', Rel c.K N F as env' st σ' H → σ'.length = σ.length → (∀ j : Nat, j ∉ slots → σ'[j]? = σ[j]?) → Q σ' H
def gTs (c : Cc) (slots : List Nat) (f : List D → En → Option En) : TGs := fun vs σ H Q => ∃ N F as env st ds env', Rel c.K N F as env st σ H ∧ RepL c.K F as vs ds ∧ f ds env = some env' ∧
  ∀ σ', Rel c.K N F as env' st σ' H → σ'.length = σ.length → (∀ j : Nat, j ∉ slots → σ'[j]? = σ[j]?) → Q σ' H
def tgN (i : Nat) : TgF := fun d e => some (e.set i (.val d))
def tgNil : List D → En → Option En
  | [], e => some e
  | _ :: _, _ => none
def tgCons (f : TgF) (g : List D → En → Option En) : List D → En → Option En
  | [], _ => none
  | d :: ds, e => (f d e).bind (g ds)
def tgT (n : Nat) (g : List D → En → Option En) : TgF := fun d e => match d with
  | .tup ds => if ds.length = n then g ds e else none
  | .lst ds => if ds.length = n then g ds e else none
  | _ => none
section
variable {X : Cx} {c : Cc} {pos : Pos} {e : Expr} {es : List Expr}
theorem _root_.L2.PGs.imp {X : Cx} {e : List Expr} {t t' : TGs} (h : PGs X e t) (k : ∀ v σ H Q, t' v σ H Q → t v σ H Q) : PGs X e t' := ⟨fun pins s σ H vs us Q I r q => h.run pins s σ H vs us Q I r (k _ _ _ _ q)⟩
theorem _root_.L2.PG.lenImp {X : Cx} {e : Expr} {t t' : TG} (h : PG X e t) (k : ∀ v σ H Q, σ.length = X.N.length → t' v σ H Q → t v σ H Q) : PG X e t' := ⟨fun pins s σ H v u Q I r q => h.run pins s σ H v u Q I r (k _ _ _ _ I.len q)⟩
theorem _root_.L2.PG.or {X : Cx} {e : Expr} {t t' : TG} (h : PG X e t) (k : PG X e t') : PG X e (fun v σ H Q => t v σ H Q ∨ t' v σ H Q) := ⟨fun pins s σ H v u Q I r q => q.elim (fun q => h.run pins s σ H v u Q I r q) fun q => k.run pins s σ H v u Q I r q⟩
theorem g_name {i : Nat} {x : Str} (hN : X.N.Nodup) (hi : X.N[i]? = some x) (hx : Loc X.env.scope x) (hf : X.fn x = true ∨ X.env.scope.names.lookup x = some .local) : PG X (.Name x pos) (gT c [i] (tgN i)) :=
  (pg_name hN hi hx hf).lenImp fun v σ H Q l h => by
    obtain ⟨N, F, as, env, st, d, env', r, hv, e, k⟩ := h
    cases e
    exact k _ (r.setSlot (by rw [l]; exact lt_of_get hi) (p := .fro d) hv) (by rw [List.length_set]) fun j hj => by rw [List.getElem?_set_ne (show i ≠ j from fun z => hj (List.mem_singleton.mpr z.symm))]
theorem g_nil : PGs X [] (gTs c [] tgNil) := pgs_nil.imp fun v σ H Q h => by
  obtain ⟨N, F, as, env, st, d, env', r, hv, e, k⟩ := h
  cases hv with
  | nil => cases e; exact ⟨rfl, k σ r rfl fun _ _ => rfl⟩
  | cons _ _ => cases e
theorem asg_cons {env : Env} (h : noStar e = true) : (assignEach (e :: es) env).map (·.2) = assign e env :: (assignEach es env).map (·.2) := by
  cases e <;> first | rfl | cases h
theorem asg_len {env : Env} : ∀ es : List Expr, (assignEach es env).length = es.length
  | [] => rfl
  | e :: es => by
    cases e <;> exact congrArg (· + 1) (asg_len es)
theorem asg_none {env : Env} : ∀ {es : List Expr}, noStars es = true → (assignEach es env).findIdx? (·.1) = none
  | [], _ => rfl
  | e :: es, h => by
    unfold noStars at h
    rw [List.all_cons, Bool.and_eq_true] at h
    have ih := asg_none (env := env) (es := es) h.2
    have e1 : assignEach (e :: es) env = (false, assign e env) :: assignEach es env := by
      cases e <;> first | rfl | cases h.1
    rw [e1, List.findIdx?_cons, ih]
    rfl
theorem g_cons {s1 s2 : List Nat} {f : TgF} {g : List D → En → Option En} (hs : noStar e = true) (h1 : PG X e (gT c s1 f)) (h2 : PGs X es (gTs c s2 g)) : PGs X (e :: es) (gTs c (s1 ++ s2) (tgCons f g)) := (pgs_cons h1 h2 (asg_cons hs)).imp fun vs σ H Q h => by
  obtain ⟨N, F, as, env, st, ds, env', r, hv, q, k⟩ := h
  cases hv with
  | nil => cases q
  | @cons v d vs ds hv1 hv2 =>
    refine ⟨_, _, rfl, ?_⟩
    have q : (f d env).bind (g ds) = some env' := q
    cases z : f d env with
    | none => rw [z] at q; cases q
    | some e1 =>
      rw [z] at q
      refine ⟨N, F, as, env, st, d, e1, r, hv1, z, fun σ1 r1 l1 k1 => ⟨N, F, as, e1, st, ds, env', r1, hv2, q, fun σ2 r2 l2 k2 => k σ2 r2 (l2.trans l1) fun j hj => ?_⟩⟩
      rw [k2 j (fun z => hj (List.mem_append_right _ z)), k1 j (fun z => hj (List.mem_append_left _ z))]
theorem g_tup (hK : c.K = X.K) {kk n : Nat} {s1 : List Nat} {g : List D → En → Option En} (hc : X.calm = true) (h : PGs X es (gTs c s1 g)) (hl : es.length = n) (hs : noStars es = true) : PG X (.Tuple es kk pos) (gT c s1 (tgT n g)) := by
  have hn : (assignEach es X.env).length = n := (asg_len es).trans hl
  refine ((pg_tup hc h hn (asg_none hs)).or (pg_unl hc h hn (asg_none hs))).imp fun v σ H Q q => ?_
  obtain ⟨N, F, as, env, st, d, env', r, hv, q, k⟩ := q
  match d, hv, q with
  | .tup ds, hv, q =>
    cases hv with
    | @tup a vs _ h1 h2 =>
      have q' : (if ds.length = n then g ds env else none) = some env' := q
      by_cases z : ds.length = n
      · rw [if_pos z] at q'
        exact .inl ⟨a, vs, rfl, hK ▸ r.sub.seqT h1, by rw [h2.len]; exact z, N, F, as, env, st, ds, env', r, h2, q', k⟩
      · rw [if_neg z] at q'; cases q'
  | .lst ds, hv, q =>
    cases hv with
    | @lst a vs _ h1 h2 =>
      have q' : (if ds.length = n then g ds env else none) = some env' := q
      by_cases z : ds.length = n
      · rw [if_pos z] at q'
        exact .inr ⟨a, vs, rfl, .inl (.inl (r.sub _ _ h1)), by rw [h2.len]; exact z, N, F, as, env, st, ds, env', r, h2, q', k⟩
      · rw [if_neg z] at q'; cases q'
end
def tgM (f : TgF) (d : D) : SM := fun e s => match f d e with
  | some e' => .ok .nx e' s
  | none => .bad
def sAsg (m : M D) (f : TgF) : SM := bnd m (tgM f)
theorem tS_asg {c : Cc} {D : Ends} {σ : L2.St} {H : Hp} {m : M PD.D} {sl : List Nat} {f : TgF} (h : tS c (sAsg m f) D σ H) : tAsg (tE c m) (gT c sl f) D σ H := by
  obtain ⟨N, F, as, env, st, r, p⟩ := h
  refine ⟨N, F, as, env, st, r, (PostS.bind r p).mono fun d e s F1 as1 H1 r1 _ _ _ q v hv => ?_⟩
  unfold tgM at q
  cases z : f d e with
  | none => rw [z] at q; exact q.elim
  | some e' =>
    rw [z] at q
    exact ⟨N, F1, as1, e, s, d, e', r1, hv, z, fun σ' r' _ _ => q σ' F1 as1 H1 r' (Le.refl _) (Pre.refl _) (Ks.refl _ _)⟩
end PD
/-! PD, part 9: statements that change slots, parallel stores, loops -/
namespace PD
open PySem PySem.Spec PyProof.Rows L2

/-! ### expressions that may change slots and cells -/
def PostX {α : Type} (c : Cc) (N : Addr → Prop) (F : Hp) (as : List Addr) (σ : L2.St) (H : Hp) (r : Res α) (P : α → En → Sto → Hp → List Addr → Hp → Prop) : Prop :=
  match r with
  | .ok a env st => ∀ F' as' H', Rel c.K N F' as' env st σ H' → Le F F' → Pre as as' → Ks N H H' → P a env st F' as' H'
  | .exc x env st => ∀ F' as' H' cls dx, Rel c.K N F' as' env st σ H' → Le F F' → Pre as as' → Ks N H H' → c.XR F' as' H' x cls dx → c.W cls dx σ H'
  | .bad => False
def tX (c : Cc) (m : M D) : TE := fun σ H Q => ∃ N F as env st, Rel c.K N F as env st σ H ∧ PostX c N F as σ H (m env st) fun d _ _ F' as' H' => ∀ v, Rep c.K F' as' v d → Q v H'
section
variable {α : Type} {c : Cc} {D : Ends} {σ : L2.St} {H : Hp} {N : Addr → Prop} {F : Hp} {as : List Addr} {env : En} {st : Sto}
theorem PostX.mono {r : Res α} {P P' : α → En → Sto → Hp → List Addr → Hp → Prop} (h : PostX c N F as σ H r P)
    (k : ∀ a env st F' as' H', Rel c.K N F' as' env st σ H' → Le F F' → Pre as as' → Ks N H H' → P a env st F' as' H' → P' a env st F' as' H') : PostX c N F as σ H r P' := by
  cases r with
  | ok a e s => exact fun F' as' H' r1 r2 r3 r4 => k a e s F' as' H' r1 r2 r3 r4 (h F' as' H' r1 r2 r3 r4)
  | exc x e s => exact h
  | bad => exact h
theorem PostX.post {r : Res α} {P : α → En → Sto → Hp → List Addr → Hp → Prop} (h : PostX c N F as σ H r P) (r0 : Rel c.K N F as env st σ H) : Post c N F as σ H r P := by
  cases r with
  | ok a e s => exact fun F' as' H' r1 r2 r3 r4 => h F' as' H' r1 r2 r3 (r4.ks r0)
  | exc x e s => exact fun F' as' H' cls dx r1 r2 r3 r4 => h F' as' H' cls dx r1 r2 r3 (r4.ks r0)
  | bad => exact h
theorem PostS.bindX {m : M α} {k : α → SM} (h : PostS c N F as H D (bnd m k env st)) : PostX c N F as σ H (m env st) fun a env1 st1 F1 as1 H1 => PostS c N F1 as1 H1 D (k a env1 st1) := by
  unfold bnd at h
  cases e : m env st with
  | ok a e s =>
    rw [e] at h
    exact fun F1 as1 H1 r1 r2 r3 r4 => h.rebase r2 r3 r4
  | exc x e s =>
    rw [e] at h
    exact fun F1 as1 H1 cls dx r1 r2 r3 r4 => h σ F1 as1 H1 cls dx r1 r2 r3 r4
  | bad => rw [e] at h; exact h
theorem PostX.rebase {r : Res α} {P : α → En → Sto → Hp → List Addr → Hp → Prop} {F' : Hp} {as' : List Addr} {H' : Hp} (h : PostX c N F as σ H r P) (hF : Le F F') (ha : Pre as as') (hK : Ks N H H') : PostX c N F' as' σ H' r P := by
  cases r with
  | ok a e s => exact fun F2 as2 H2 r1 r2 r3 r4 => h F2 as2 H2 r1 (hF.trans r2) (ha.trans r3) (hK.trans r4)
  | exc x e s => exact fun F2 as2 H2 cls dx r1 r2 r3 r4 => h F2 as2 H2 cls dx r1 (hF.trans r2) (ha.trans r3) (hK.trans r4)
  | bad => exact h
theorem PostX.bind {β : Type} {m : M α} {k : α → M β} {P : β → En → Sto → Hp → List Addr → Hp → Prop} (h : PostX c N F as σ H (bnd m k env st) P) :
    PostX c N F as σ H (m env st) fun a env1 st1 F1 as1 H1 => PostX c N F1 as1 σ H1 (k a env1 st1) P := by
  unfold bnd at h
  cases e : m env st with
  | ok a e s =>
    rw [e] at h
    exact fun F1 as1 H1 r1 r2 r3 r4 => h.rebase r2 r3 r4
  | exc x e s => rw [e] at h; exact h
  | bad => rw [e] at h; exact h
theorem tX_tE {m : M PD.D} {Q : VK} (h : tX c m σ H Q) : tE c m σ H Q := by
  obtain ⟨N, F, as, env, st, r, p⟩ := h
  exact ⟨N, F, as, env, st, r, p.post r⟩
theorem tS_retX {m : M PD.D} (h : tS c (sRet m) D σ H) : tRet (tX c m) D σ H := by
  obtain ⟨N, F, as, env, st, r, p⟩ := h
  exact ⟨N, F, as, env, st, r, (PostS.bindX p).mono fun d e s F1 as1 H1 r1 _ _ _ q v hv => q σ F1 as1 H1 v r1 (Le.refl _) (Pre.refl _) (Ks.refl _ _) hv⟩
theorem tS_setX {i : Nat} {m : M PD.D} (hi : i < σ.length) (h : tS c (sSet i (up m)) D σ H) : tAsg (tX c m) (gName i) D σ H := by
  obtain ⟨N, F, as, env, st, r, p⟩ := h
  have p2 : PostS c N F as H D (bnd m (fun d => setM i (.fro d)) env st) := by
    have e : bnd m (fun d => setM i (.fro d)) env st = sSet i (up m) env st := by
      unfold sSet up bnd
      cases m env st <;> rfl
    rw [e]
    exact p
  exact ⟨N, F, as, env, st, r, (PostS.bindX p2).mono fun d e s F1 as1 H1 r1 _ _ _ q v hv => q _ F1 as1 H1 (r1.setSlot hi (p := .fro d) hv) (Le.refl _) (Pre.refl _) (Ks.refl _ _)⟩
end
theorem _root_.L2.PE.eX {X : Cx} {c : Cc} {e : Expr} {m : M D} (h : PE X e (tE c m)) : PE X e (tX c m) := h.imp fun _ _ _ => tX_tE

/-! ### append, extend, store by place, pop -/
def ownL (i : Nat) : M Unit := fun e s => match e[i]? with
  | some (.own (.lst _)) => .ok () e s
  | _ => .bad
def appM (i : Nat) (d : D) : SM := fun e s => match e[i]? with
  | some (.own (.lst xs)) => if xs.length < lim then .ok .nx (e.set i (.own (.lst (xs ++ [d])))) s else .bad
  | _ => .bad
def sApp (i : Nat) (m : M D) : SM := bnd (ownL i) fun _ => bnd m (appM i)
def extM (i : Nat) (d : D) : SM := fun e s => match e[i]?, dr s d with
  | some (.own (.lst xs)), .lst ys => if xs.length + ys.length ≤ lim then .ok .nx (e.set i (.own (.lst (xs ++ ys)))) s else .bad
  | _, _ => .bad
def sExt (i : Nat) (m : M D) : SM := bnd (ownL i) fun _ => bnd m (extM i)
def stM (i : Nat) (d k : D) : SM := fun e s => match e[i]?, k with
  | some (.own (.lst xs)), .int k => match ixN xs.length k with
    | some j => .ok .nx (e.set i (.own (.lst (xs.set j d)))) s
    | none => .bad
  | some (.val (.ref n)), .int k => match s[n]? with
    | some xs => match ixN xs.length k with
      | some j => if scal1 d then .ok .nx e (s.set n (xs.set j d)) else .bad
      | none => .bad
    | none => .bad
  | _, _ => .bad
def hasV (i : Nat) : M Unit := fun e s => match e[i]? with
  | some (.own _) => .ok () e s
  | some (.val _) => .ok () e s
  | _ => .bad
def sStI (i : Nat) (mv mk : M D) : SM := bnd mv fun d => bnd (hasV i) fun _ => bnd mk (stM i d)
def popM (i : Nat) (k : D) : M D := fun e s => match e[i]?, k with
  | some (.own (.lst xs)), .int k => if decide (-1000000000 ≤ k) && decide (k ≤ 1000000000) then match seqIndex? k xs.length with
    | some j => match xs[j]? with
      | some d => .ok d (e.set i (.own (.lst (xs.eraseIdx j)))) s
      | none => .bad
    | none => .bad
    else .bad
  | _, _ => .bad
def ePop (i : Nat) (m : M D) : M D := bnd (ownL i) fun _ => bnd m (popM i)
def popM0 (i : Nat) : M D := fun e s => match e[i]? with
  | some (.own (.lst xs)) => match xs[xs.length - 1]? with
    | some d => .ok d (e.set i (.own (.lst xs.dropLast))) s
    | none => .bad
  | _ => .bad
def popR : D → M D
  | .ref n => fun e s => match s[n]? with
    | some xs => match xs[xs.length - 1]? with
      | some d => .ok d e (s.set n xs.dropLast)
      | none => .bad
    | none => .bad
  | _ => noRes
def ePopR (m : M D) : M D := bnd m popR
section
variable {c : Cc} {D : Ends} {σ : L2.St} {H : Hp} {N : Addr → Prop} {F : Hp} {as : List Addr} {env : En} {st : Sto}
theorem ownL_ok {α : Type} {i : Nat} {k : Unit → M α} {P : Res α → Prop} (hb : ¬ P .bad) (h : P (bnd (ownL i) k env st)) : ∃ xs, env[i]? = some (.own (.lst xs)) ∧ P (k () env st) := by
  unfold bnd ownL at h
  split at h
  · rename_i a e s z
    split at z
    · cases z
      exact ⟨_, by assumption, h⟩
    · cases z
  · rename_i z
    split at z <;> cases z
  · exact absurd h hb
theorem tyL {K : PySem.W.Frag} {H : Hp} {p : Addr} {vs : List V} (h : H p = some (.lst vs)) : tyV K "list" (.ref p) H := .inl ⟨rfl, _, .inl (.inl h)⟩
theorem own_at {i : Nat} {xs : List PD.D} (r : Rel c.K N F as env st σ H) (e : env[i]? = some (.own (.lst xs))) : ∃ p vs, σ[i]? = some (some (.ref p)) ∧ H p = some (.lst vs) ∧ RepL c.K F as vs xs := by
  obtain ⟨p, ho, h1, h2, h3, _⟩ := r.own i _ e
  cases h3 with
  | lst h3 => exact ⟨p, _, h1, h2, h3⟩
theorem tS_app {i : Nat} {m : M PD.D} (h : tS c (sApp i m) D σ H) : tDrop (tBM c.K "list" rAppend (tVar i) (tCons (tX c m) tNil)) D σ H := by
  obtain ⟨N, F, as, env, st, r, p⟩ := h
  obtain ⟨xs, e0, p⟩ := ownL_ok (P := fun z => PostS c N F as H D z) (fun z => z) p
  obtain ⟨q, vs, h1, h2, h3⟩ := own_at r e0
  refine ⟨.ref q, h1, tyL h2, N, F, as, env, st, r, (PostS.bindX p).mono fun d e s F1 as1 H1 r1 _ _ _ p1 v hv => ?_⟩
  unfold appM at p1
  split at p1
  · rename_i ys e1
    by_cases hl : ys.length < lim
    · rw [if_pos hl] at p1
      obtain ⟨q1, vs1, k1, k2, k3⟩ := own_at r1 e1
      rw [h1] at k1
      cases k1
      refine ⟨q, vs1, v, rfl, rfl, k2, by rw [k3.len]; exact Nat.lt_of_lt_of_le hl (lim_ok (Nat.le_refl _)), ?_⟩
      obtain ⟨w1, w2⟩ := r1.write e1 h1 (.lst (k3.append (.cons hv .nil)))
      exact p1 σ F1 as1 _ w1 (Le.refl _) (Pre.refl _) w2
    · rw [if_neg hl] at p1
      exact p1.elim
  · exact p1.elim
theorem tS_ext {i : Nat} {m : M PD.D} (h : tS c (sExt i m) D σ H) : tDrop (tBM c.K "list" rExtend (tVar i) (tCons (tB c m) tNil)) D σ H := by
  obtain ⟨N, F, as, env, st, r, p⟩ := h
  obtain ⟨xs, e0, p⟩ := ownL_ok (P := fun z => PostS c N F as H D z) (fun z => z) p
  obtain ⟨q, vs, h1, h2, h3⟩ := own_at r e0
  refine ⟨.ref q, h1, tyL h2, N, F, as, env, st, r, (PostS.bind r p).mono fun d e s F1 as1 H1 r1 _ _ _ p1 v hv => ?_⟩
  unfold extM at p1
  split at p1
  · rename_i ys zs e1 e2
    by_cases hl : ys.length + zs.length ≤ lim
    · rw [if_pos hl] at p1
      obtain ⟨q1, vs1, k1, k2, k3⟩ := own_at r1 e1
      rw [h1] at k1
      cases k1
      have hd := dr_rep r1 hv
      rw [e2] at hd
      obtain ⟨b, us, rfl, g1, g2⟩ := hd.lst r1.sub
      refine ⟨q, b, vs1, us, rfl, rfl, k2, g1, by rw [k3.len, g2.len]; exact lim_ok hl, ?_⟩
      obtain ⟨w1, w2⟩ := r1.write e1 h1 (.lst (k3.append g2))
      exact p1 σ F1 as1 _ w1 (Le.refl _) (Pre.refl _) w2
    · rw [if_neg hl] at p1
      exact p1.elim
  · exact p1.elim
theorem scal_rep {K : PySem.W.Frag} {F : Hp} {as : List Addr} {v : V} {d : PD.D} (h : Rep K F as v d) (e : scal1 d = true) : Rep K (fun _ => none) as v d := by
  cases h with
  | non => exact .non
  | bl _ => exact .bl _
  | int _ => exact .int _
  | str _ => exact .str _
  | ref h => exact .ref h
  | lst _ _ => cases e
  | tup _ _ => cases e
  | dic _ _ => cases e
  | rep _ => cases e
  | fzl _ _ => cases e
theorem tS_st {i : Nat} {mv mk : M PD.D} (h : tS c (sStI i mv mk) D σ H) : tAsg (tX c mv) (gSub (tVar i) (tE c mk) rSetL) D σ H := by
  obtain ⟨N, F, as, env, st, r, p⟩ := h
  refine ⟨N, F, as, env, st, r, (PostS.bindX p).mono fun d e s F1 as1 H1 r1 _ _ _ p1 v hv => ?_⟩
  have hx : ∃ x, σ[i]? = some (some x) ∧ PostS c N F1 as1 H1 D (bnd mk (stM i d) e s) := by
    unfold bnd hasV at p1
    cases z : e[i]? with
    | none => rw [z] at p1; exact p1.elim
    | some sl =>
      rw [z] at p1
      cases sl with
      | un => exact p1.elim
      | val d' =>
        obtain ⟨x, h1, _⟩ := r1.val i d' z
        exact ⟨x, h1, p1⟩
      | own o =>
        obtain ⟨x, ho, h1, _⟩ := r1.own i o z
        exact ⟨_, h1, p1⟩
  obtain ⟨x, h1, p1⟩ := hx
  refine ⟨x, h1, N, F1, as1, e, s, r1, (PostS.bind r1 p1).mono fun k e s F2 as2 H2 r2 l2 pr2 _ p2 u hu => ?_⟩
  unfold stM at p2
  split at p2
  · rename_i xs k e1
    cases hu
    obtain ⟨q1, vs1, k1, k2, k3⟩ := own_at r2 e1
    rw [h1] at k1
    cases k1
    cases z : ixN xs.length k with
    | none => rw [z] at p2; exact p2.elim
    | some j =>
      rw [z] at p2
      refine ⟨q1, vs1, k, j, rfl, rfl, k2, by rw [k3.len]; exact z, ?_⟩
      obtain ⟨w1, w2⟩ := r2.write e1 h1 (.lst (RepL.set (hv.mono l2 pr2) j k3))
      exact p2 σ F2 as2 _ w1 (Le.refl _) (Pre.refl _) w2
  · rename_i n k e1
    cases hu
    obtain ⟨y, h3, h4⟩ := r2.val i _ e1
    rw [h1] at h3
    cases h3
    cases h4 with
    | @ref _ a h4 =>
      cases z : s[n]? with
      | none => rw [z] at p2; exact p2.elim
      | some xs =>
        rw [z] at p2
        obtain ⟨a', vs, g1, g2, g3⟩ := r2.sto n xs z
        rw [h4] at g1
        cases g1
        have p2 : PostS c N F2 as2 H2 D (match ixN xs.length k with
          | some j => if scal1 d = true then .ok .nx e (s.set n (xs.set j d)) else .bad
          | none => .bad) := p2
        cases z2 : ixN xs.length k with
        | none => rw [z2] at p2; exact p2.elim
        | some j =>
          rw [z2] at p2
          by_cases hs : scal1 d = true
          · have p2 : PostS c N F2 as2 H2 D (if scal1 d = true then .ok .nx e (s.set n (xs.set j d)) else .bad) := p2
            rw [if_pos hs] at p2
            refine ⟨a, vs, k, j, rfl, rfl, g2, by rw [g3.len]; exact z2, ?_⟩
            obtain ⟨w1, w2⟩ := r2.swrite (lt_of_get z) h4 (RepL.set ((scal_rep hv hs).mono (Le.refl _) pr2) j g3)
            exact p2 σ F2 as2 _ w1 (Le.refl _) (Pre.refl _) w2
          · have p2 : PostS c N F2 as2 H2 D (if scal1 d = true then .ok .nx e (s.set n (xs.set j d)) else .bad) := p2
            rw [if_neg hs] at p2
            exact p2.elim
  · exact p2.elim
theorem tX_pop {i : Nat} {m : M PD.D} {Q : VK} (h : tX c (ePop i m) σ H Q) : tBM c.K "list" rPopAt (tVar i) (tCons (tX c m) tNil) σ H Q := by
  obtain ⟨N, F, as, env, st, r, p⟩ := h
  obtain ⟨xs, e0, p⟩ := ownL_ok (P := fun z => PostX c N F as σ H z _) (fun z => z) p
  obtain ⟨q, vs, h1, h2, h3⟩ := own_at r e0
  refine ⟨.ref q, h1, tyL h2, N, F, as, env, st, r, (PostX.bind p).mono fun d e s F1 as1 H1 r1 _ _ _ p1 v hv => ?_⟩
  unfold popM at p1
  split at p1
  · rename_i ys k e1
    cases hv
    by_cases hl : (decide (-1000000000 ≤ k) && decide (k ≤ 1000000000)) = true
    · rw [if_pos hl] at p1
      rw [Bool.and_eq_true, decide_eq_true_eq, decide_eq_true_eq] at hl
      cases z : seqIndex? k ys.length with
      | none => rw [z] at p1; exact p1.elim
      | some j =>
        rw [z] at p1
        cases z2 : ys[j]? with
        | none =>
          simp only [z2] at p1
          exact p1.elim
        | some d =>
          simp only [z2] at p1
          obtain ⟨q1, vs1, k1, k2, k3⟩ := own_at r1 e1
          rw [h1] at k1
          cases k1
          obtain ⟨y, g1, g2⟩ := k3.get z2
          refine ⟨q, vs1, k, j, y, rfl, rfl, k2, by omega, by omega, by rw [k3.len]; exact z, g1, ?_⟩
          obtain ⟨w1, w2⟩ := r1.write e1 h1 (.lst (k3.eraseIdx j))
          exact p1 F1 as1 _ w1 (Le.refl _) (Pre.refl _) w2 y g2
    · rw [if_neg hl] at p1
      exact p1.elim
  · exact p1.elim
theorem RepL.dropLast {K : PySem.W.Frag} {F : Hp} {as : List Addr} {vs : List V} {ds : List PD.D} (h : RepL K F as vs ds) : RepL K F as vs.dropLast ds.dropLast := by
  rw [List.dropLast_eq_take, List.dropLast_eq_take, h.len]
  exact h.take _
theorem tX_pop0 {i : Nat} {Q : VK} (h : tX c (popM0 i) σ H Q) : tBM0 c.K "list" rPop (tVar i) σ H Q := by
  obtain ⟨N, F, as, env, st, r, p⟩ := h
  unfold popM0 at p
  split at p
  · rename_i ys e1
    obtain ⟨q1, vs1, k1, k2, k3⟩ := own_at r e1
    cases z2 : ys[ys.length - 1]? with
    | none => rw [z2] at p; exact p.elim
    | some d =>
      rw [z2] at p
      obtain ⟨y, g1, g2⟩ := k3.get z2
      refine ⟨.ref q1, k1, tyL k2, q1, vs1, y, rfl, rfl, k2, by rw [k3.len]; exact g1, ?_⟩
      obtain ⟨w1, w2⟩ := r.write e1 k1 (.lst k3.dropLast)
      exact p F as _ w1 (Le.refl _) (Pre.refl _) w2 y g2
  · exact p.elim
theorem tX_popR {m : M PD.D} {Q : VK} (h : tX c (ePopR m) σ H Q) : tBM0 c.K "list" rPop (tE c m) σ H Q := by
  obtain ⟨N, F, as, env, st, r, p⟩ := h
  refine ⟨N, F, as, env, st, r, PostX.post ((PostX.bind p).mono fun d e s F1 as1 H1 r1 _ _ _ p1 v hv => ?_) r⟩
  match d, hv, p1 with
  | .ref n, hv, p1 =>
    unfold popR at p1
    cases hv with
    | @ref _ a h4 =>
      cases z : s[n]? with
      | none => simp only [z] at p1; exact p1.elim
      | some xs =>
        obtain ⟨a', vs, g1, g2, g3⟩ := r1.sto n xs z
        rw [h4] at g1
        cases g1
        cases z2 : xs[xs.length - 1]? with
        | none => simp only [z, z2] at p1; exact p1.elim
        | some d =>
          simp only [z, z2] at p1
          obtain ⟨y, k1, k2⟩ := g3.get z2
          refine ⟨tyL g2, a, vs, y, rfl, rfl, g2, by rw [g3.len]; exact k1, ?_⟩
          obtain ⟨w1, w2⟩ := r1.swrite (lt_of_get z) h4 g3.dropLast
          exact p1 F1 as1 _ w1 (Le.refl _) (Pre.refl _) w2 y (k2.mono (fun _ _ z => by cases z) (Pre.refl _))
end
end PD
/-! PD, part 10: rules for statements that change slots; several stores at once; loops -/
namespace PD
open PySem PySem.Spec PyProof.Rows L2

def fewOk (es : List Expr) : Bool := noStars es && decide (es.length < 25)
theorem few_ok {es : List Expr} {env : Env} {cpos : Pos} (h : fewOk es = true) : ((backTo cpos (starEach es env)).all (fun x => !x.1) && (backToKw cpos (keywordEach [] env)).all (fun x => x.1.isSome) && decide (es.length + ([] : List Keyword).length + (if ([] : List Keyword).isEmpty then 0 else 1) < 30)) = true := by
  unfold fewOk at h
  rw [Bool.and_eq_true, decide_eq_true_eq] at h
  have h1 : ∀ es : List Expr, noStars es = true → (backTo cpos (starEach es env)).all (fun x => !x.1) = true := fun es => by
    induction es with
    | nil => intro _; rfl
    | cons e es ih =>
      intro h
      unfold noStars at h
      rw [List.all_cons, Bool.and_eq_true] at h
      rw [star_cons h.1]
      show (true && (backTo cpos (starEach es env)).all (fun x => !x.1)) = true
      rw [ih h.2]
      rfl
  rw [h1 es h.1]
  have h2 : es.length + ([] : List Keyword).length + (if ([] : List Keyword).isEmpty then 0 else 1) < 30 := by
    have := h.2
    simp
    omega
  rw [decide_eq_true h2]
  rfl
/-- a name or a value whose method is asked at once -/
def baseOk : Expr → Bool
  | .Name _ _ => true
  | .Subscript _ _ _ => true
  | _ => false
section
variable {X : Cx} {c : Cc} {pos apos cpos np : Pos} {e o : Expr} {es : List Expr}
theorem base_ok {name : Str} (h : baseOk o = true) : attributeBase o name X.env (eval o X.env) = eval o X.env := by
  cases o <;> first | rfl | cases h
theorem callNoSwap (h : noComp e = true) {l : Nat} : swapsWith e none l X.env = pure false := no_swap h _ _ _
theorem s_app (hK : c.K = X.K) {i : Nat} {x : Str} {A : M D} (hN : X.N[i]? = some x) (hv : Vis X.env.scope x) (hd : (x == ("__debug__" : Str)) = false) (hcd : (x == ("__classdict__" : Str)) = false) (h : PE X e (tX c A)) (hs : noStar e = true) (hl : (apos.endLine == cpos.line) = true) :
    PS X (.Expr (.Call (.Attribute (.Name x np) "append" apos) [e] [] cpos) pos) (tS c (sApp i A)) := by
  have hst : noStars [e] = true := by unfold noStars; rw [List.all_cons, hs]; rfl
  have hf : fewOk [e] = true := by unfold fewOk; rw [hst]; rfl
  have p := pe_bm (cpos := cpos) (apos := apos) PySem.F.plainAttrs_list PySem.F.slot_list_append PySem.F.type_list_append mt_append (pe_var (pos := np) hN hv hd hcd) (pa_cons h pa_nil (star_cons hs)) rfl (few_ok hf) hl (star_cons hs) rfl
  exact (ps_expr p).imp fun D σ H h => hK ▸ tS_app h
theorem s_ext (hK : c.K = X.K) {i : Nat} {x : Str} {A : M D} (hN : X.N[i]? = some x) (hv : Vis X.env.scope x) (hd : (x == ("__debug__" : Str)) = false) (hcd : (x == ("__classdict__" : Str)) = false) (h : PE X e (tB c A)) (hs : noStar e = true) (hl : (apos.endLine == cpos.line) = true) :
    PS X (.Expr (.Call (.Attribute (.Name x np) "extend" apos) [e] [] cpos) pos) (tS c (sExt i A)) := by
  have hst : noStars [e] = true := by unfold noStars; rw [List.all_cons, hs]; rfl
  have hf : fewOk [e] = true := by unfold fewOk; rw [hst]; rfl
  have p := pe_bm (cpos := cpos) (apos := apos) PySem.F.plainAttrs_list PySem.F.slot_list_extend PySem.F.type_list_extend mt_extend (pe_var (pos := np) hN hv hd hcd) (pa_cons h pa_nil (star_cons hs)) rfl (few_ok hf) hl (star_cons hs) rfl
  exact (ps_expr p).imp fun D σ H h => hK ▸ tS_ext h
theorem x_pop (hK : c.K = X.K) {i : Nat} {x : Str} {A : M D} (hN : X.N[i]? = some x) (hv : Vis X.env.scope x) (hd : (x == ("__debug__" : Str)) = false) (hcd : (x == ("__classdict__" : Str)) = false) (h : PE X e (tX c A)) (hs : noStar e = true) (hl : (apos.endLine == cpos.line) = true) :
    PE X (.Call (.Attribute (.Name x np) "pop" apos) [e] [] cpos) (tX c (ePop i A)) := by
  have hst : noStars [e] = true := by unfold noStars; rw [List.all_cons, hs]; rfl
  have hf : fewOk [e] = true := by unfold fewOk; rw [hst]; rfl
  have p := pe_bm (cpos := cpos) (apos := apos) PySem.F.plainAttrs_list PySem.F.slot_list_pop PySem.F.type_list_pop mt_popAt (pe_var (pos := np) hN hv hd hcd) (pa_cons h pa_nil (star_cons hs)) rfl (few_ok hf) hl (star_cons hs) rfl
  exact p.imp fun σ H Q h => hK ▸ tX_pop h
theorem x_pop0 (hK : c.K = X.K) {i : Nat} {x : Str} (hN : X.N[i]? = some x) (hv : Vis X.env.scope x) (hd : (x == ("__debug__" : Str)) = false) (hcd : (x == ("__classdict__" : Str)) = false) (hl : (apos.endLine == cpos.line) = true) :
    PE X (.Call (.Attribute (.Name x np) "pop" apos) [] [] cpos) (tX c (popM0 i)) := by
  have p := pe_bm0 (cpos := cpos) (apos := apos) PySem.F.plainAttrs_list PySem.F.slot_list_pop PySem.F.type_list_pop mt_pop (pe_var (pos := np) hN hv hd hcd) rfl hl
  exact p.imp fun σ H Q h => hK ▸ tX_pop0 h
theorem x_popR (hK : c.K = X.K) {A : M D} (ho : PE X o (tE c A)) (hb : baseOk o = true) (hl : (apos.endLine == cpos.line) = true) : PE X (.Call (.Attribute o "pop" apos) [] [] cpos) (tX c (ePopR A)) := by
  have p := pe_bm0 (cpos := cpos) (apos := apos) PySem.F.plainAttrs_list PySem.F.slot_list_pop PySem.F.type_list_pop mt_pop ho (base_ok hb) hl
  exact p.imp fun σ H Q h => hK ▸ tX_popR h
theorem s_retX {A : M D} (h : PE X e (tX c A)) : PS X (.Return (some e) pos) (tS c (sRet A)) := (ps_ret h).imp fun _ _ _ => tS_retX
theorem s_setX {i : Nat} {x : Str} {pos' : Pos} {A : M D} (hN : X.N.Nodup) (hi : X.N[i]? = some x) (hx : Loc X.env.scope x) (hf : X.fn x = true ∨ X.env.scope.names.lookup x = some .local) (h : PE X e (tX c A)) (hc : swapsWith e (some (.Name x pos')) pos.line X.env = pure false) :
    PS X (.Assign [.Name x pos'] e pos) (tS c (sSet i (up A))) := (ps_set hN hi hx h hc hf).lenImp fun D σ H l => tS_setX (by rw [l]; exact lt_of_get hi)
theorem sole (h : noComp e = true) {ts : List Expr} {l : Nat} : swapsWithSole ts e l X.env = pure false := by
  match ts with
  | [] => rfl
  | [t] => exact no_swap h _ _ _
  | _ :: _ :: _ => rfl
theorem soleS (o' i' : Expr) {p' : Pos} {l : Nat} : swapsWithSole [.Subscript o' i' p'] e l X.env = pure false := by
  cases e <;> rfl
theorem stores_none (t : Expr) (h : ∀ ts k p, t ≠ .Tuple ts k p) (h2 : ∀ ts p, t ≠ .List ts p) : swappedStores [t] e X.env = pure none := by
  unfold swappedStores
  cases t <;> first | rfl | exact absurd rfl (h _ _ _) | exact absurd rfl (h2 _ _)
theorem asg_sub {o' i' : Expr} {p' : Pos} (h : ixOk i' = true) (v : Value) : assign (.Subscript o' i' p') X.env v = (do
    let a ← holding [v] (eval o' X.env)
    let b ← holding [v, a] (eval i' X.env)
    standAt p'
    holding [v, a, b] (setItem a b v)
    release [v, a, b] []) := by
  cases i' <;> first | rfl | cases h
theorem s_st {i : Nat} {x : Str} {k : Expr} {p' : Pos} {A B : M D} (hK : c.K = X.K) (hN : X.N[i]? = some x) (hv : Vis X.env.scope x) (hd : (x == ("__debug__" : Str)) = false) (hcd : (x == ("__classdict__" : Str)) = false) (h : PE X e (tX c A)) (hk : PE X k (tE c B)) (hx : ixOk k = true) :
    PS X (.Assign [.Subscript (.Name x np) k p'] e pos) (tS c (sStI i A B)) :=
  (ps_asg h (pg_sub (pe_var (pos := np) hN hv hd hcd) hk set_list (asg_sub hx)) (soleS _ _) (stores_none _ (fun _ _ _ z => by cases z) (fun _ _ z => by cases z))).imp fun D σ H h => tS_st h
theorem stores_other {ts : List Expr} {kk : Nat} {p' : Pos} (h : ∀ vs k p, e ≠ .Tuple vs k p) : swappedStores [.Tuple ts kk p'] e X.env = pure none := by
  unfold swappedStores
  cases e <;> first | rfl | exact absurd rfl (h _ _ _)
def notTup : Expr → Bool
  | .Tuple _ _ _ => false
  | _ => true
theorem s_asg {ts : List Expr} {kk : Nat} {p' : Pos} {A : M D} {sl : List Nat} {f : TgF} (h : PE X e (tE c A)) (hg : PG X (.Tuple ts kk p') (gT c sl f)) (hc : noComp e = true) (ht : notTup e = true) : PS X (.Assign [.Tuple ts kk p'] e pos) (tS c (sAsg A f)) :=
  (ps_asg h hg (sole hc) (stores_other fun vs k p z => by subst z; cases ht)).imp fun D σ H => tS_asg
end

/-! ### several stores at once -/
def nwN (N : Addr → Prop) (v : V) (p : PR) : Addr → Prop := fun a => N a ∨ ((∃ o, p = .new o) ∧ v = .ref a)
def RepPL (K : PySem.W.Frag) (F : Hp) (as : List Addr) (env : En) (σ : L2.St) (H : Hp) : (Addr → Prop) → List V → List PR → Prop
  | _, [], [] => True
  | N, v :: vs, p :: ps => RepP K N F as env σ H v p ∧ RepPL K F as env σ H (nwN N v p) vs ps
  | _, _, _ => False
def tPs (c : Cc) (m : M (List PR)) : TA := fun σ H Q => ∃ N F as env st, Rel c.K N F as env st σ H ∧ Post c N F as σ H (m env st) fun ps env' _ F' as' H' => ∀ vs, RepPL c.K F' as' env' σ H' N vs ps → Q vs H'
def lNil : M (List PR) := ret []
def lCons (m : M PR) (t : M (List PR)) : M (List PR) := bnd m fun p => bnd t fun ps => ret (p :: ps)
def setE : List Nat → List PR → En → En
  | i :: is, p :: ps, e => setE is ps (e.set i (slOf p))
  | _, _, e => e
def setV : List Nat → List V → L2.St → L2.St
  | i :: is, v :: vs, σ => setV is vs (σ.set i (some v))
  | _, _, σ => σ
def parM (is : List Nat) (ps : List PR) : SM := fun e s => if ps.length = is.length then .ok .nx (setE is ps e) s else .bad
def sPar (is : List Nat) (m : M (List PR)) : SM := bnd m (parM is)
section
variable {c : Cc} {D : Ends} {σ : L2.St} {H : Hp} {N N' : Addr → Prop} {F : Hp} {as : List Addr} {env : En} {st : Sto}
theorem Rel.weaken (r : Rel c.K N' F as env st σ H) (h : ∀ a, N a → N' a) : Rel c.K N F as env st σ H :=
  ⟨r.sub, r.len, r.val, fun i o e => by
    obtain ⟨p, ho, h1, h2, h3, h4, h5, h6, h7⟩ := r.own i o e
    exact ⟨p, ho, h1, h2, h3, h4, h5, fun z => h6 (h p z), h7⟩, r.slen, r.sto, r.snd, r.sfr, fun a n => r.out a (h a n)⟩
theorem Post.moreN {α : Type} {r : Res α} {P : α → En → Sto → Hp → List Addr → Hp → Prop} (q : Post c N F as σ H r P) (h : ∀ a, N a → N' a) : Post c N' F as σ H r P := by
  cases r with
  | ok a e s => exact fun F' as' H' r1 r2 r3 r4 => q F' as' H' (r1.weaken h) r2 r3 r4
  | exc x e s => exact fun F' as' H' cls dx r1 r2 r3 r4 => q F' as' H' cls dx (r1.weaken h) r2 r3 r4
  | bad => exact q
theorem Rel.moreN (r : Rel c.K N F as env st σ H) {v : V} {p : PR} (h : RepP c.K N F as env σ H v p) : Rel c.K (nwN N v p) F as env st σ H := by
  refine ⟨r.sub, r.len, r.val, fun i o e => ?_, r.slen, r.sto, r.snd, r.sfr, fun a n => ?_⟩
  · obtain ⟨q, ho, h1, h2, h3, h4, h5, h6, h7⟩ := r.own i o e
    refine ⟨q, ho, h1, h2, h3, h4, h5, fun z => ?_, h7⟩
    rcases z with z | ⟨⟨o', rfl⟩, rfl⟩
    · exact h6 z
    · obtain ⟨a, ho', e1, _, _, _, _, _, g⟩ := h
      cases e1
      exact g i o e h1
  · rcases n with n | ⟨⟨o', rfl⟩, rfl⟩
    · exact r.out a n
    · obtain ⟨b, ho', e1, g1, _, g2, g3, _, _⟩ := h
      cases e1
      exact ⟨g2, g3, ho', g1⟩
theorem RepP.later {F' : Hp} {as' : List Addr} {env' : En} {st' : Sto} {H' : Hp} {v : V} {p : PR} (h : RepP c.K N F as env σ H v p) (r : Rel c.K (nwN N v p) F' as' env' st' σ H') (hF : Le F F') (ha : Pre as as') (hK : Kp as as' H H') : RepP c.K N F' as' env' σ H' v p := by
  cases p with
  | fro d => exact Rep.mono hF ha h
  | new o =>
    obtain ⟨a, ho, rfl, h1, h2, h3, h4, h5, h6⟩ := h
    have n : nwN N (.ref a) (.new o) a := .inr ⟨⟨o, rfl⟩, rfl⟩
    obtain ⟨g1, g2, _⟩ := r.out a n
    refine ⟨a, ho, rfl, hK.keep a ho h1 h4, h2.mono hF ha, g1, g2, h5, fun j o' e z => ?_⟩
    obtain ⟨q, ho', k1, _, _, _, _, k6, _⟩ := r.own j o' e
    rw [z] at k1
    cases k1
    exact k6 n
theorem tPs_nil {Q : List V → Hp → Prop} (h : tPs c lNil σ H Q) : tNil σ H Q := by
  obtain ⟨N, F, as, env, st, r, p⟩ := h
  exact (Post.here p r) [] trivial
theorem tPs_cons {m : M PR} {t : M (List PR)} {Q : List V → Hp → Prop} (h : tPs c (lCons m t) σ H Q) : tCons (tP c m) (tPs c t) σ H Q := by
  obtain ⟨N, F, as, env, st, r, p⟩ := h
  refine ⟨N, F, as, env, st, r, (Post.bind p).mono fun d e s F1 as1 H1 r1 l1 p1 k1 q1 v hv => ?_⟩
  refine ⟨nwN N v d, F1, as1, e, s, r1.moreN hv, ((Post.bind q1).moreN fun _ n => .inl n).mono fun ds e s F2 as2 H2 r2 l2 p2 k2 q2 vs hvs => ?_⟩
  exact (Post.here q2 (r2.weaken fun _ n => .inl n)) (v :: vs) ⟨hv.later r2 l2 p2 k2, hvs⟩
theorem RepPL.after : ∀ {vs : List V} {ps : List PR} {N : Addr → Prop} {i : Nat} {v : V} {p : PR}, RepPL c.K F as env σ H (nwN N v p) vs ps → i < σ.length → RepPL c.K F as (env.set i (slOf p)) (σ.set i (some v)) H N vs ps
  | [], [], _, _, _, _, _, _ => trivial
  | w :: vs, q :: ps, N, i, v, p, h, hi => by
    refine ⟨?_, ?_⟩
    · cases q with
      | fro d => exact h.1
      | new o =>
        obtain ⟨a, ho, rfl, h1, h2, h3, h4, h5, h6⟩ := h.1
        refine ⟨a, ho, rfl, h1, h2, h3, h4, fun n => h5 (.inl n), fun j o' e z => ?_⟩
        rcases get_set e with ⟨rfl, e1⟩ | ⟨nj, e⟩
        · rw [List.getElem?_set_self hi] at z
          cases z
          cases p with
          | fro d => cases e1
          | new o'' => exact h5 (.inr ⟨⟨o'', rfl⟩, rfl⟩)
        · rw [List.getElem?_set_ne (fun z => nj z.symm)] at z
          exact h6 j o' e z
    · have h2 := h.2
      have sw : RepPL c.K F as env σ H (nwN (nwN N w q) v p) vs ps := by
        have e : nwN (nwN N v p) w q = nwN (nwN N w q) v p := by
          funext a
          unfold nwN
          exact propext ⟨fun z => by rcases z with (z | z) | z; exact .inl (.inl z); exact .inr z; exact .inl (.inr z), fun z => by rcases z with (z | z) | z; exact .inl (.inl z); exact .inr z; exact .inl (.inr z)⟩
        rw [← e]
        exact h2
      exact RepPL.after sw hi
  | [], _ :: _, _, _, _, _, h, _ => h.elim
  | _ :: _, [], _, _, _, _, h, _ => h.elim
theorem Rel.setAll : ∀ {is : List Nat} {vs : List V} {ps : List PR} {env : En} {σ : L2.St}, Rel c.K N F as env st σ H → RepPL c.K F as env σ H N vs ps → (∀ i ∈ is, i < σ.length) → Rel c.K N F as (setE is ps env) st (setV is vs σ) H
  | [], _, _, _, _, r, _, _ => by unfold setE setV; exact r
  | i :: is, [], [], _, _, r, _, _ => by unfold setE setV; exact r
  | i :: is, v :: vs, p :: ps, env, σ, r, h, hl => by
    unfold setE setV
    have hi := hl i (by simp)
    exact Rel.setAll (r.setSlot hi h.1) (h.2.after hi) fun j hj => by rw [List.length_set]; exact hl j (by simp [hj])
  | _ :: _, [], _ :: _, _, _, _, h, _ => h.elim
  | _ :: _, _ :: _, [], _, _, _, h, _ => h.elim
theorem RepPL.len {K : PySem.W.Frag} : ∀ {vs : List V} {ps : List PR} {N : Addr → Prop}, RepPL K F as env σ H N vs ps → vs.length = ps.length
  | [], [], _, _ => rfl
  | _ :: _, _ :: _, _, h => congrArg (· + 1) (RepPL.len h.2)
  | [], _ :: _, _, h => h.elim
  | _ :: _, [], _, h => h.elim
theorem tS_par {is : List Nat} {m : M (List PR)} (hl : ∀ i ∈ is, i < σ.length) (h : tS c (sPar is m) D σ H) : tPs c m σ H fun vs H1 => vs.length = is.length ∧ (D.nx (setV is vs σ) H1 ∧ ∀ T, H1 T = none → D.nx (setV is vs σ) (upd H1 T (.tup vs))) := by
  obtain ⟨N, F, as, env, st, r, p⟩ := h
  refine ⟨N, F, as, env, st, r, (PostS.bind r p).mono fun ps e s F1 as1 H1 r1 _ _ _ q vs hv => ?_⟩
  unfold parM at q
  by_cases z : ps.length = is.length
  · rw [if_pos z] at q
    have r2 := r1.setAll hv hl
    refine ⟨hv.len.trans z, q _ F1 as1 H1 r2 (Le.refl _) (Pre.refl _) (Ks.refl _ _), fun T hT => q _ F1 as1 _ (r2.alloc hT) (Le.refl _) (Pre.refl _) ((Kp.put (as := as1) hT).ks r1)⟩
  · rw [if_neg z] at q
    exact q.elim
end
section
variable {X : Cx} {c : Cc} {pos : Pos}
theorem l_nil : PA X [] (tPs c lNil) := pa_nil.imp fun _ _ _ => tPs_nil
theorem l_cons {e : Expr} {es : List Expr} {A : M PR} {B : M (List PR)} (hs : noStar e = true) (ha : PE X e (tP c A)) (hb : PA X es (tPs c B)) : PA X (e :: es) (tPs c (lCons A B)) := (pa_cons ha hb (star_cons hs)).imp fun _ _ _ => tPs_cons
theorem gs_name {is : List Nat} : ∀ {ts : List Expr}, True → True := fun _ => trivial
/-- stores of several names, from the left -/
def gSet (is : List Nat) : TGs := fun vs σ H Q => vs.length = is.length ∧ Q (setV is vs σ) H
theorem gset_nil : PGs X [] (gSet []) := pgs_nil.imp fun v σ H Q h => by
  obtain ⟨h1, h2⟩ := h
  cases v with
  | nil => exact ⟨rfl, h2⟩
  | cons _ _ => cases h1
theorem gset_cons {x : Str} {p : Pos} {i : Nat} {es : List Expr} {is : List Nat} (hN : X.N.Nodup) (hi : X.N[i]? = some x) (hx : Loc X.env.scope x) (hf : X.fn x = true ∨ X.env.scope.names.lookup x = some .local) (h2 : PGs X es (gSet is)) : PGs X (.Name x p :: es) (gSet (i :: is)) :=
  (pgs_cons (pg_name hN hi hx hf) h2 (asg_cons rfl)).imp fun vs σ H Q h => by
    obtain ⟨h1, h3⟩ := h
    cases vs with
    | nil => cases h1
    | cons v vs => exact ⟨v, vs, rfl, by simpa using h1, h3⟩
/-- by a tuple that is unpacked -/
theorem s_parT {ts es : List Expr} {k1 k2 : Nat} {p1 p2 : Pos} {is : List Nat} {A : M (List PR)} (hc : X.calm = true) (ha : PA X es (tPs c A)) (hg : PGs X ts (gSet is)) (hl : ts.length = is.length) (hs : noStars ts = true) (hi : ∀ i ∈ is, i < X.N.length) (hsz : is.length ≤ lim)
    (hw : swappedStores [.Tuple ts k1 p1] (.Tuple es k2 p2) X.env = pure none) : PS X (.Assign [.Tuple ts k1 p1] (.Tuple es k2 p2) pos) (tS c (sPar is A)) := by
  refine (ps_asg (pe_tup ha) (pg_tup (n := is.length) hc hg ((asg_len ts).trans hl) (asg_none hs)) (sole rfl) hw).lenImp fun D σ H l h => ?_
  obtain ⟨N, F, as, env, st, r, p⟩ := tS_par (fun i m => by rw [l]; exact hi i m) h
  refine ⟨N, F, as, env, st, r, p.mono fun ps e s F1 as1 H1 r1 _ _ _ q vs hv => ?_⟩
  obtain ⟨q1, q2, q3⟩ := q vs hv
  exact ⟨by rw [q1]; exact lim_ok hsz, fun T hT => ⟨T, vs, rfl, .inl (.inl upd_same), q1, q1, q3 T hT⟩⟩
theorem s_par2 {x y : Str} {a b : Expr} {px py p1 p2 : Pos} {k1 k2 : Nat} {i j : Nat} {A : M (List PR)} (hc : X.calm = true) (hN : X.N.Nodup) (hi : X.N[i]? = some x) (hj : X.N[j]? = some y) (hij : i ≠ j) (hx : X.env.scope.names.lookup x = some .local) (hy : X.env.scope.names.lookup y = some .local)
    (ha : PA X [a, b] (tPs c A)) (hw : swappedStores [.Tuple [.Name x px, .Name y py] k1 p1] (.Tuple [a, b] k2 p2) X.env = pure (some [x, y])) : PS X (.Assign [.Tuple [.Name x px, .Name y py] k1 p1] (.Tuple [a, b] k2 p2) pos) (tS c (sPar [i, j] A)) := by
  refine (ps_par hc hN hi hj hij hx hy ha hw (sole rfl)).lenImp fun D σ H l h => ?_
  obtain ⟨N, F, as, env, st, r, p⟩ := tS_par (fun k m => by
    rw [l]
    rcases List.mem_cons.mp m with rfl | m
    · exact lt_of_get hi
    · rw [List.mem_singleton.mp m]; exact lt_of_get hj) h
  refine ⟨N, F, as, env, st, r, p.mono fun ps e s F1 as1 H1 r1 _ _ _ q vs hv => ?_⟩
  obtain ⟨q1, q2, q3⟩ := q vs hv
  match vs, q1, q2 with
  | [v, w], q1, q2 => exact ⟨v, w, rfl, q2⟩
theorem s_par3 {x y z : Str} {a b d : Expr} {px py pz p1 p2 : Pos} {k1 k2 : Nat} {i j l : Nat} {A : M (List PR)} (hc : X.calm = true) (hN : X.N.Nodup) (hi : X.N[i]? = some x) (hj : X.N[j]? = some y) (hl : X.N[l]? = some z) (hij : i ≠ j) (hil : i ≠ l) (hjl : j ≠ l) (hx : X.env.scope.names.lookup x = some .local) (hy : X.env.scope.names.lookup y = some .local) (hz : X.env.scope.names.lookup z = some .local)
    (ha : PA X [a, b, d] (tPs c A)) (hw : swappedStores [.Tuple [.Name x px, .Name y py, .Name z pz] k1 p1] (.Tuple [a, b, d] k2 p2) X.env = pure (some [x, y, z])) : PS X (.Assign [.Tuple [.Name x px, .Name y py, .Name z pz] k1 p1] (.Tuple [a, b, d] k2 p2) pos) (tS c (sPar [i, j, l] A)) := by
  refine (ps_par3 hc hN hi hj hl hij hil hjl hx hy hz ha hw (sole rfl)).lenImp fun D σ H le h => ?_
  obtain ⟨N, F, as, env, st, r, p⟩ := tS_par (fun k m => by
    rw [le]
    rcases List.mem_cons.mp m with rfl | m
    · exact lt_of_get hi
    · rcases List.mem_cons.mp m with rfl | m
      · exact lt_of_get hj
      · rw [List.mem_singleton.mp m]; exact lt_of_get hl) h
  refine ⟨N, F, as, env, st, r, p.mono fun ps e s F1 as1 H1 r1 _ _ _ q vs hv => ?_⟩
  obtain ⟨q1, q2, q3⟩ := q vs hv
  match vs, q1, q2 with
  | [v, w, u], q1, q2 => exact ⟨v, w, u, rfl, q2⟩
end
end PD
/-! PD, part 11: list(reversed(list)) -/
namespace PD
open PySem PySem.Spec PyProof.Rows L2
section
variable {prog : Program} {w : World} {A : Around} {E : Value → Shared → Prop} {s : Shared}
/-- a list lengthened by a reversed list -/
theorem ext_rev {R : Result → Shared → Prop} {it l S : Addr} {items : Array Value} {c0 : Nat} (hh : A.handled = none) (hit : s.heap.IsRevIter it l ((items.size : Int) - 1)) (hl : s.heap.IsList l items) (hne : l ≠ it) (hn : items.size ≤ sizeLine) (hSi : S ≠ it) (hSl : S ≠ l)
    (hS : s.heap.get? S = some { cls := .type "list", data := .seq #[] c0 })
    (hR : ∀ h' tk acc c', (∀ b o, b ≠ S → b ≠ it → s.heap.get? b = some o → h'.get? b = some o) → h'.get? S = some { cls := .type "list", dict := none, data := .seq acc c', slots := #[] } → ItemsOf (fun i v => items[items.size - 1 - i]? = some v) acc items.size → R (.ok (.ret .none)) { s with heap := h', toks := tk }) :
    wpAny (model prog w) A.in1 (Builtin.List.listExtendWith (.ref S) (.ref it) .none)
      (fun f s' => match f with | .done g => R (.ok g) s' | .again k => k.quiet = true ∧ codeAny (model prog w) A k R s') (fun e s' => R (.error e) s') s := by
  have W := (Walks.listRev (prog := prog) (w := w) (A := A.in1) hh it l hne items).toS
  have hSf : S ∉ [it, l] := by
    intro z
    rcases List.mem_cons.mp z with z | z
    · exact hSi z
    · exact hSl (List.mem_singleton.mp z)
  have hT : s.TypeIs (.ref it) "list_reverseiterator" := hit.typeIs
  have hne2 : Builtin.List.listSameRef (.ref S) (.ref it) = false := by simp [Builtin.List.listSameRef, hSi]
  unfold Builtin.List.listExtendWith
  refine wpAny_bind (wpAny_typeOf hT ?_)
  rw [if_neg (by rw [hne2]; decide)]
  refine wpAny_bind (wpAny_pyIter_revIter hit (wpAny_bind (wpAny_holding ?_)))
  unfold Builtin.List.listLengthHint
  refine wpAny_bind (wpAny_specialOf hT RT.nolen_lri ?_)
  show wpAny _ A.in1 (specialOf (Value.ref it) (Str.ofString "__length_hint__") >>= _) _ _ s
  refine wpAny_bind (wpAny_specialOf hT RT.hint_lri ?_)
  generalize hid : ("list_reverseiterator.__length_hint__" : String) = idn
  wp_delta
  rw [show splitId idn = some ("list_reverseiterator", "__length_hint__") from by subst hid; decide +kernel]
  subst hid
  refine wpAny_bind (wpAny_isInstance (b := true) hT (by rw [isSubtype_type]; kernel_rfl) (wpAny_pure ?_))
  rw [if_neg (by decide)]
  have ez : ((items.size : Nat) : Int) - 1 - ((0 : Nat) : Int) = (items.size : Int) - 1 := by omega
  refine wpAny_pure ⟨plainId_quiet F.plain_extend_loop _, codeAny_extend_loopS W hn S hSf _ items.size 0 _ _ _ rfl (Nat.zero_le _) ⟨Nat.zero_le _, by rw [ez]; exact hit, hl⟩ hS (ItemsOf.nil _) fun s' acc c' hm hS' hacc => ?_⟩
  rw [Moved.eq_with hm]
  refine hR s'.heap s'.toks acc c' (fun b o hb hb2 e => hm.heap b o (fun z => ?_) e) hS' hacc
  rcases List.mem_cons.mp z with z | z
  · exact hb z
  · exact hb2 (List.mem_singleton.mp z)
theorem init_rev {R : Result → Shared → Prop} {it l S : Addr} {items : Array Value} (hh : A.handled = none) (hit : s.heap.IsRevIter it l ((items.size : Int) - 1)) (hl : s.heap.IsList l items) (hne : l ≠ it) (hn : items.size ≤ sizeLine) (hSi : S ≠ it) (hSl : S ≠ l)
    (hS : s.heap.get? S = some { cls := .type "list", data := .seq #[] })
    (hR : ∀ h' tk acc c', (∀ b o, b ≠ S → b ≠ it → s.heap.get? b = some o → h'.get? b = some o) → h'.get? S = some { cls := .type "list", dict := none, data := .seq acc c', slots := #[] } → ItemsOf (fun i v => items[items.size - 1 - i]? = some v) acc items.size → R (.ok (.ret .none)) { s with heap := h', toks := tk }) :
    wpAny (model prog w) A.in1 (Builtin.«list.__init__» ⟨[.ref S, .ref it], []⟩)
      (fun f s' => match f with | .done g => R (.ok g) s' | .again k => k.quiet = true ∧ codeAny (model prog w) A k R s') (fun e s' => R (.error e) s') s := by
  show wpAny _ _ (do let was ← Builtin.List.listItems (.ref S); Builtin.List.listUpdate (.ref S) (fun _ => #[]); letGo was.toList.reverse; Builtin.List.listExtendWith (.ref S) (.ref it) .none) _ _ s
  refine wpAny_bind ?_
  unfold Builtin.List.listItems
  refine wpAny_bind (wpAny_seqItems hS rfl (wpAny_pure ?_))
  show wpAny _ _ (updateSeq S (fun _ => #[]) >>= fun _ => letGo (#[] : Array Value).toList.reverse >>= fun _ => Builtin.List.listExtendWith (.ref S) (.ref it) .none) _ _ s
  refine wpAny_bind (wpAny_updateSeq hS rfl ?_)
  have hS2 := Heap.get?_update_self (Obj.mapSeq (fun _ => (#[] : Array Value))) hS rfl
  have oth : ∀ b o, b ≠ S → s.heap.get? b = some o → (s.heap.update S (Obj.mapSeq (fun _ => (#[] : Array Value)))).get? b = some o := fun b o hb e => (Heap.get?_update_other _ _ (Ne.symm hb)).trans e
  refine wpAny_bind (wpAny_letGo (ext_rev hh (hit.at fun o e => oth it o hSi.symm e) (hl.at fun o e => oth l o hSl.symm e) hne hn hSi hSl hS2 fun h' tk acc c' hk hS' hacc => hR h' tk acc c' (fun b o hb hb2 e => hk b o hb hb2 (oth b o hb e)) hS' hacc))
theorem call_list_rev {it l : Addr} {items : Array Value} {Q : Value → Shared → Prop} (hh : A.handled = none) (hit : s.heap.IsRevIter it l ((items.size : Int) - 1)) (hl : s.heap.IsList l items) (hne : l ≠ it) (hn : items.size ≤ sizeLine)
    (hQ : ∀ h' tk acc c', (∀ b o, b ≠ it → s.heap.get? b = some o → h'.get? b = some o) → h'.get? s.heap.objs.size = some { cls := .type "list", dict := none, data := .seq acc c', slots := #[] } → ItemsOf (fun i v => items[items.size - 1 - i]? = some v) acc items.size → Q (.ref s.heap.objs.size) { s with heap := h', toks := tk }) :
    wpAny (model prog w) A (call (.type "list") [.ref it]) Q E s := by
  refine callType_codes (Q₁ := fun obj s₁ => obj = .ref s.heap.objs.size ∧ s₁ = { s with heap := s.heap.push { cls := .type "list", data := .seq #[] } }) PySem.F.called_list (PySem.F.typeCall_list_1 _) PySem.F.entry_list_init (code_list_new _ ⟨rfl, rfl⟩) fun obj s₁ h₁ => ?_
  obtain ⟨rfl, rfl⟩ := h₁
  have hS : (s.heap.push { cls := .type "list", data := .seq #[] }).get? s.heap.objs.size = some { cls := .type "list", data := .seq #[] } := Heap.get?_push_size _ rfl
  obtain ⟨oi, hoi, _⟩ := id hit
  obtain ⟨ol, hol, _⟩ := id hl
  refine ⟨⟨_, hS, rfl⟩, PySem.F.args_list_init_2 _ _, init_rev (A := A.in1) hh (hit.at fun o e => Heap.get?_push_of_some _ e) (hl.push _) hne hn (Nat.ne_of_gt (Heap.lt_size hoi)) (Nat.ne_of_gt (Heap.lt_size hol)) hS fun h' tk acc c' hk hS' hacc => ?_⟩
  exact ⟨rfl, hQ h' tk acc c' (fun b o hb e => hk b o (Nat.ne_of_lt (Heap.lt_size e)) hb (Heap.get?_push_of_some _ e)) hS' hacc⟩
end
def tLstRev (K : PySem.W.Frag) (te : TE) : TE := fun σ H Q => te σ H fun v H1 => ∃ (a : Addr) (xs : List V), v = .ref a ∧ SqL K H1 a xs ∧ ∀ q, H1 q = none → Q (.ref q) (upd H1 q (.lst xs.reverse))
section
variable {X : Cx}
theorem pe_lstRev {e : Expr} {te : TE} {p p2 pos pos2 : Pos} (hc : X.calm = true) (hg : Gl X "list") (hm : X.mg "list" = none) (hg2 : Gl X "reversed") (hm2 : X.mg "reversed" = none) (he : PE X e te) (hs : noStar e = true) :
    PE X (.Call (.Name "list" p) [.Call (.Name "reversed" p2) [e] [] pos2] [] pos) (tLstRev X.K te) := by
  refine ⟨fun pins s σ H Q I h => ?_⟩
  refine Call_ (ld_blt I hg hm boot_list (PyProof.Rows.callWith_type1 (args_cons (Call_ (ld_blt I hg2 hm2 PyProof.Rows.boot_reversed (PyProof.Rows.callWith_type1 (args_cons (thn (he.run pins s σ H _ I h) fun u s1 ⟨v, H1, I1, r1, q1⟩ => args_nil ?_) (star_cons hs)) (star_cons hs) rfl))) rfl) rfl rfl))
  obtain ⟨a, xs, ev, hq, q⟩ := q1
  subst ev
  obtain rfl : u = Value.ref a := r1
  obtain ⟨its, rv, pl, hz⟩ := I1.list hq
  refine call_reversed_list pl.isList (args_nil ?_)
  have I2 : L2.Inv X pins σ H1 { s1 with heap := s1.heap.push (revObj a ((its.toArray.size : Int) - 1)) } := I1.kept (t' := s1.toks) fun b o e => Heap.get?_push_of_some _ e
  have fp := I1.fpOk (H' := H1) (b := s1.heap.objs.size) (Nat.le_refl _) (I1.hok.fresh (Nat.le_refl _))
  have hl := pl.isList
  obtain ⟨ol, hol, _⟩ := id hl
  have hne : a ≠ s1.heap.objs.size := Nat.ne_of_lt (Heap.lt_size hol)
  have hn : its.toArray.size ≤ sizeLine := by rw [List.size_toArray, ← rv.length]; exact hz
  refine call_list_rev (s := { s1 with heap := s1.heap.push (revObj a ((its.toArray.size : Int) - 1)) }) (I1.ok.hd hc) ⟨_, Heap.get?_push_size _ rfl, rfl, rfl⟩ (hl.push _) hne hn fun h' tk acc c' hk hS hi => ?_
  have hsz : (s1.heap.push (revObj a ((its.toArray.size : Int) - 1))).objs.size = (s1.heap.push (revObj a ((its.toArray.size : Int) - 1))).objs.size := rfl
  generalize hT : (s1.heap.push (revObj a ((its.toArray.size : Int) - 1))).objs.size = T at hS ⊢
  have hTn : H1 T = none := I2.hok.fresh (Nat.le_of_eq hT)
  refine ⟨.ref T, upd H1 T (.lst xs.reverse), I2.turnedNew (h' := h') (t' := tk) (ch := [s1.heap.objs.size]) (fun b o hb e => hk b o (fun z => hb (by rw [z]; exact List.mem_singleton.mpr rfl)) e) (fun b hb => by rw [List.mem_singleton.mp hb]; exact fp) (Nat.le_of_eq hT) ?_, rfl, q _ hTn⟩
  refine ⟨by rw [List.length_reverse]; exact hz, acc.toList, c', RT.vals_rev rv hi, ?_⟩
  rw [Array.toArray_toList]
  exact hS
end
end PD
/-! PD, part 12: what is walked; loops; comprehensions -/
namespace PD
open PySem PySem.Spec PyProof.Rows L2

structure ItOk (K : PySem.W.Frag) (J : It) (F : Hp) (as : List Addr) (items : List D) : Prop where
  go : ∀ (i : Nat) (F' H' : Hp), Le F F' → Le F' H' → i < items.length → J.go i H'
  stop : ∀ (i : Nat) (F' H' : Hp), Le F F' → Le F' H' → items.length ≤ i → J.stop i H'
  yld : ∀ (i : Nat) (F' : Hp) (as' : List Addr) (H' : Hp) (x : V) (H'' : Hp) (d : D), Le F F' → Le F' H' → Pre as as' → items[i]? = some d → J.yld i H' x H'' →
    (H'' = H' ∧ Rep K F' as' x d) ∨ ∃ p us ds, H' p = none ∧ H'' = upd H' p (.tup us) ∧ x = .ref p ∧ d = .tup ds ∧ RepL K F' as' us ds
def tI (c : Cc) (m : M (List D)) : TI := fun σ H R => ∃ N F as env st, Rel c.K N F as env st σ H ∧ Post c N F as σ H (m env st) fun items _ _ F' as' H' => ∀ J, ItOk c.K J F' as' items → R J H'
theorem ItOk.mono {K : PySem.W.Frag} {J : It} {F F' : Hp} {as as' : List Addr} {items : List D} (h : ItOk K J F as items) (hF : Le F F') (ha : Pre as as') : ItOk K J F' as' items :=
  ⟨fun i F2 H2 l => h.go i F2 H2 (hF.trans l), fun i F2 H2 l => h.stop i F2 H2 (hF.trans l), fun i F2 as2 H2 x H3 d l m p => h.yld i F2 as2 H2 x H3 d (hF.trans l) m (ha.trans p)⟩

/-! what is walked -/
def itM : D → M (List D)
  | .lst xs => ret xs
  | .fzl xs => ret xs
  | .tup xs => ret xs
  | _ => noRes
def iSeq (m : M D) : M (List D) := bnd m itM
def rangeD (lo : Int) (n : Nat) : List D := (List.range n).map fun (i : Nat) => D.int (lo + (i : Int))
def rangeC (lo c : Int) (n : Nat) : List D := (List.range n).map fun (i : Nat) => D.int (lo + (i : Int) * c)
def rngB (i : Int) : Bool := decide (-1000000000 ≤ i) && decide (i ≤ 1000000000)
def rng1M : List D → M (List D)
  | [.int j] => if rngB j then ret (rangeD 0 j.toNat) else noRes
  | _ => noRes
def rng2M : List D → M (List D)
  | [.int i, .int j] => if rngB i && rngB j then ret (rangeD i (j - i).toNat) else noRes
  | _ => noRes
def rng3M : List D → M (List D)
  | [.int i, .int j, .int k] => if rngB i && rngB j && decide (k = -1) then ret (rangeC i (-1) (i - j).toNat) else noRes
  | _ => noRes
def iRng1 (m : M (List D)) : M (List D) := bnd m rng1M
def iRng2 (m : M (List D)) : M (List D) := bnd m rng2M
def iRng3 (m : M (List D)) : M (List D) := bnd m rng3M
def enumD : Nat → List D → List D
  | _, [] => []
  | i, d :: ds => .tup [.int i, d] :: enumD (i + 1) ds
def enumM : List D → M (List D)
  | [.lst xs] => ret (enumD 0 xs)
  | _ => noRes
def iEnu (m : M (List D)) : M (List D) := bnd m enumM
def zipD : List D → List D → List D
  | x :: xs, y :: ys => .tup [x, y] :: zipD xs ys
  | _, _ => []
def zipM : List D → M (List D)
  | [.lst xs, .lst ys] => ret (zipD xs ys)
  | [.tup xs, .tup ys] => ret (zipD xs ys)
  | _ => noRes
def iZp (m : M (List D)) : M (List D) := bnd m zipM
def revM : D → M (List D)
  | .lst xs => ret xs.reverse
  | .tup xs => ret xs.reverse
  | _ => noRes
def iRv (m : M D) : M (List D) := bnd m revM
section
variable {c : Cc}
theorem rangeD_len (lo : Int) (n : Nat) : (rangeD lo n).length = n := by simp [rangeD]
theorem rangeC_len (lo k : Int) (n : Nat) : (rangeC lo k n).length = n := by simp [rangeC]
theorem it_list {F : Hp} {as : List Addr} {a : Addr} {vs : List V} {xs : List D} (h : SqL c.K F a vs) (r : RepL c.K F as vs xs) : ItOk c.K (Itl c.K a) F as xs where
  go := fun i F' H' l m hi => by
    rw [← r.len] at hi
    exact ⟨vs, vs[i], m.seq (l.seq h), List.getElem?_eq_getElem hi⟩
  stop := fun i F' H' l m hi => ⟨vs, m.seq (l.seq h), by rw [r.len]; exact hi⟩
  yld := fun i F' as' H' x H'' d l m p e y => by
    obtain ⟨e1, y⟩ := y
    obtain ⟨v, h1, h2⟩ := r.get e
    have := y vs (m.seq (l.seq h))
    rw [h1] at this
    cases this
    exact .inl ⟨e1, h2.mono l p⟩
theorem it_tup {F : Hp} {as : List Addr} {a : Addr} {vs : List V} {xs : List D} (h : SqT c.K F a vs) (r : RepL c.K F as vs xs) : ItOk c.K (Itt c.K a) F as xs where
  go := fun i F' H' l m hi => by
    rw [← r.len] at hi
    exact ⟨vs, vs[i], m.seqT (l.seqT h), List.getElem?_eq_getElem hi⟩
  stop := fun i F' H' l m hi => ⟨vs, m.seqT (l.seqT h), by rw [r.len]; exact hi⟩
  yld := fun i F' as' H' x H'' d l m p e y => by
    obtain ⟨e1, y⟩ := y
    obtain ⟨v, h1, h2⟩ := r.get e
    have := y vs (m.seqT (l.seqT h))
    rw [h1] at this
    cases this
    exact .inl ⟨e1, h2.mono l p⟩
theorem it_range {F : Hp} {as : List Addr} {lo : Int} {n : Nat} : ItOk c.K (Itr lo n) F as (rangeD lo n) where
  go := fun i F' H' l m hi => by rw [rangeD_len] at hi; exact hi
  stop := fun i F' H' l m hi => by rw [rangeD_len] at hi; exact hi
  yld := fun i F' as' H' x H'' d l m p e y => by
    obtain ⟨e1, rfl⟩ := y
    have hi := lt_of_get e
    rw [rangeD_len] at hi
    rw [rangeD, List.getElem?_map, List.getElem?_range hi] at e
    cases e
    exact .inl ⟨e1, .int _⟩
theorem it_rangeC {F : Hp} {as : List Addr} {lo k : Int} {n : Nat} : ItOk c.K (Itc lo k n) F as (rangeC lo k n) where
  go := fun i F' H' l m hi => by rw [rangeC_len] at hi; exact hi
  stop := fun i F' H' l m hi => by rw [rangeC_len] at hi; exact hi
  yld := fun i F' as' H' x H'' d l m p e y => by
    obtain ⟨e1, rfl⟩ := y
    have hi := lt_of_get e
    rw [rangeC_len] at hi
    rw [rangeC, List.getElem?_map, List.getElem?_range hi] at e
    cases e
    exact .inl ⟨e1, .int _⟩
theorem enum_len : ∀ (xs : List D) (j : Nat), (enumD j xs).length = xs.length
  | [], _ => rfl
  | _ :: xs, j => congrArg (· + 1) (enum_len xs (j + 1))
theorem enum_get : ∀ (xs : List D) (j i : Nat), (enumD j xs)[i]? = (xs[i]?).map fun d => D.tup [.int ((j + i : Nat) : Int), d]
  | [], _, _ => by simp [enumD]
  | x :: xs, j, 0 => by simp [enumD]
  | x :: xs, j, i + 1 => by
    rw [enumD, List.getElem?_cons_succ, enum_get xs (j + 1) i, List.getElem?_cons_succ]
    have e : j + 1 + i = j + (i + 1) := by omega
    rw [e]
theorem it_enum {F : Hp} {as : List Addr} {a : Addr} {vs : List V} {xs : List D} (h : SqL c.K F a vs) (r : RepL c.K F as vs xs) : ItOk c.K (Ite c.K a) F as (enumD 0 xs) where
  go := fun i F' H' l m hi => by
    rw [enum_len, ← r.len] at hi
    exact ⟨vs, vs[i], m.seq (l.seq h), List.getElem?_eq_getElem hi⟩
  stop := fun i F' H' l m hi => ⟨vs, m.seq (l.seq h), by rw [r.len]; rw [enum_len] at hi; exact hi⟩
  yld := fun i F' as' H' x H'' d l m p e y => by
    obtain ⟨T, y, rfl, hT, rfl, k⟩ := y
    rw [enum_get] at e
    cases q : xs[i]? with
    | none => rw [q] at e; cases e
    | some d' =>
      rw [q] at e
      cases e
      obtain ⟨v, h1, h2⟩ := r.get q
      have := k vs (m.seq (l.seq h))
      rw [h1] at this
      cases this
      refine .inr ⟨T, _, _, hT, rfl, rfl, rfl, .cons ?_ (.cons (h2.mono l p) .nil)⟩
      rw [Nat.zero_add]
      exact .int _
theorem zip_get : ∀ (xs ys : List D) (i : Nat) (d : D), (zipD xs ys)[i]? = some d → ∃ x y, xs[i]? = some x ∧ ys[i]? = some y ∧ d = .tup [x, y]
  | [], _, _, _, h => by simp [zipD] at h
  | _ :: _, [], _, _, h => by simp [zipD] at h
  | x :: xs, y :: ys, 0, d, h => by simp [zipD] at h; exact ⟨x, y, rfl, rfl, h.symm⟩
  | x :: xs, y :: ys, i + 1, d, h => by
    rw [zipD, List.getElem?_cons_succ] at h
    obtain ⟨a, b, h1, h2, h3⟩ := zip_get xs ys i d h
    exact ⟨a, b, by simpa using h1, by simpa using h2, h3⟩
theorem zip_len : ∀ (xs ys : List D), (zipD xs ys).length = min xs.length ys.length
  | [], _ => by simp [zipD]
  | _ :: _, [] => by simp [zipD]
  | x :: xs, y :: ys => by
    rw [zipD, List.length_cons, zip_len xs ys, List.length_cons, List.length_cons]
    omega
theorem it_zip {F : Hp} {as : List Addr} {a b : Addr} {vs us : List V} {xs ys : List D} (h : SqL c.K F a vs) (r : RepL c.K F as vs xs) (g : SqL c.K F b us) (q : RepL c.K F as us ys) : ItOk c.K (Itz c.K a b) F as (zipD xs ys) where
  go := fun i F' H' l m hi => by
    rw [zip_len, ← r.len, ← q.len] at hi
    exact ⟨vs, us, vs[i], us[i], m.seq (l.seq h), m.seq (l.seq g), List.getElem?_eq_getElem (by omega), List.getElem?_eq_getElem (by omega)⟩
  stop := fun i F' H' l m hi => ⟨vs, us, m.seq (l.seq h), m.seq (l.seq g), by rw [zip_len] at hi; rw [r.len, q.len]; omega⟩
  yld := fun i F' as' H' x H'' d l m p e y => by
    obtain ⟨T, v, u, rfl, hT, rfl, k1, k2⟩ := y
    obtain ⟨x, y, e1, e2, rfl⟩ := zip_get xs ys i d e
    obtain ⟨v', h1, h2⟩ := r.get e1
    obtain ⟨u', g1, g2⟩ := q.get e2
    have z1 := k1 vs (m.seq (l.seq h))
    have z2 := k2 us (m.seq (l.seq g))
    rw [h1] at z1
    rw [g1] at z2
    cases z1
    cases z2
    exact .inr ⟨T, _, _, hT, rfl, rfl, rfl, .cons (h2.mono l p) (.cons (g2.mono l p) .nil)⟩
theorem it_zipT {F : Hp} {as : List Addr} {a b : Addr} {vs us : List V} {xs ys : List D} (h : SqT c.K F a vs) (r : RepL c.K F as vs xs) (g : SqT c.K F b us) (q : RepL c.K F as us ys) : ItOk c.K (RZ.ItzT c.K a b) F as (zipD xs ys) where
  go := fun i F' H' l m hi => by
    rw [zip_len, ← r.len, ← q.len] at hi
    exact ⟨vs, us, vs[i], us[i], m.seqT (l.seqT h), m.seqT (l.seqT g), List.getElem?_eq_getElem (by omega), List.getElem?_eq_getElem (by omega)⟩
  stop := fun i F' H' l m hi => ⟨vs, us, m.seqT (l.seqT h), m.seqT (l.seqT g), by rw [zip_len] at hi; rw [r.len, q.len]; omega⟩
  yld := fun i F' as' H' x H'' d l m p e y => by
    obtain ⟨T, v, u, rfl, hT, rfl, k1, k2⟩ := y
    obtain ⟨x, y, e1, e2, rfl⟩ := zip_get xs ys i d e
    obtain ⟨v', h1, h2⟩ := r.get e1
    obtain ⟨u', g1, g2⟩ := q.get e2
    have z1 := k1 vs (m.seqT (l.seqT h))
    have z2 := k2 us (m.seqT (l.seqT g))
    rw [h1] at z1
    rw [g1] at z2
    cases z1
    cases z2
    exact .inr ⟨T, _, _, hT, rfl, rfl, rfl, .cons (h2.mono l p) (.cons (g2.mono l p) .nil)⟩
theorem rev_get {α : Type} {xs : List α} {i : Nat} (h : i < xs.length) : xs.reverse[i]? = xs[xs.length - 1 - i]? := List.getElem?_reverse h
theorem it_rev {F : Hp} {as : List Addr} {a : Addr} {vs : List V} {xs : List D} (h : SqL c.K F a vs) (r : RepL c.K F as vs xs) : ItOk c.K (Itv c.K a vs.length) F as xs.reverse where
  go := fun i F' H' l m hi => by
    rw [List.length_reverse, ← r.len] at hi
    exact ⟨hi, vs, vs[vs.length - 1 - i], m.seq (l.seq h), List.getElem?_eq_getElem (by omega)⟩
  stop := fun i F' H' l m hi => by rw [List.length_reverse, ← r.len] at hi; exact hi
  yld := fun i F' as' H' x H'' d l m p e y => by
    obtain ⟨e1, y⟩ := y
    have hi := lt_of_get e
    rw [List.length_reverse] at hi
    rw [rev_get hi] at e
    obtain ⟨v, h1, h2⟩ := r.get e
    have := y vs (m.seq (l.seq h))
    rw [r.len, h1] at this
    cases this
    exact .inl ⟨e1, h2.mono l p⟩
theorem it_revT {F : Hp} {as : List Addr} {a : Addr} {vs : List V} {xs : List D} (h : SqT c.K F a vs) (r : RepL c.K F as vs xs) : ItOk c.K (RT.ItvT c.K a vs.length) F as xs.reverse where
  go := fun i F' H' l m hi => by
    rw [List.length_reverse, ← r.len] at hi
    exact ⟨hi, vs, vs[vs.length - 1 - i], m.seqT (l.seqT h), List.getElem?_eq_getElem (by omega)⟩
  stop := fun i F' H' l m hi => by rw [List.length_reverse, ← r.len] at hi; exact hi
  yld := fun i F' as' H' x H'' d l m p e y => by
    obtain ⟨e1, y⟩ := y
    have hi := lt_of_get e
    rw [List.length_reverse] at hi
    rw [rev_get hi] at e
    obtain ⟨v, h1, h2⟩ := r.get e
    have := y vs (m.seqT (l.seqT h))
    rw [r.len, h1] at this
    cases this
    exact .inl ⟨e1, h2.mono l p⟩
end
theorem _root_.L2.PI.or {X : Cx} {tg e : Expr} {t t' : TI} (h : PI X tg e t) (k : PI X tg e t') : PI X tg e (fun σ H R => t σ H R ∨ t' σ H R) := ⟨fun pins s σ H R I q => q.elim (fun q => h.run pins s σ H R I q) fun q => k.run pins s σ H R I q⟩
section
variable {X : Cx} {c : Cc} {tg e : Expr} {p pos tpos : Pos} {es elts : List Expr} {kk : Nat}
theorem rng_of {i : Int} (h : rngB i = true) : -(2 ^ 62) ≤ i ∧ i < 2 ^ 62 := by
  unfold rngB at h
  simp only [Bool.and_eq_true, decide_eq_true_eq] at h
  omega
theorem i_seq (hK : c.K = X.K) {A : M D} (h : PE X e (tE c A)) : PI X tg e (tI c (iSeq A)) := by
  refine ((pi_list h).or (pi_tup h)).imp fun σ H R q => ?_
  rw [← hK]
  obtain ⟨N, F, as, env, st, r, p⟩ := q
  have p1 := Post.bind p
  cases z : A env st with
  | bad => rw [z] at p1; exact p1.elim
  | exc x e s =>
    rw [z] at p1
    exact .inl ⟨N, F, as, env, st, r, by rw [z]; exact p1⟩
  | ok d e s =>
    rw [z] at p1
    match d, z, p1 with
    | .lst xs, z, p1 =>
      refine .inl ⟨N, F, as, env, st, r, ?_⟩
      rw [z]
      intro F1 as1 H1 r1 l1 pr1 k1 v hv
      have q1 := Post.here (p1 F1 as1 H1 r1 l1 pr1 k1) r1
      cases hv with
      | @lst a vs _ h1 h2 => exact ⟨a, rfl, ⟨vs, r1.sub.seq (.inl (.inl h1))⟩, q1 _ (it_list (.inl (.inl h1)) h2)⟩
    | .fzl xs, z, p1 =>
      refine .inl ⟨N, F, as, env, st, r, ?_⟩
      rw [z]
      intro F1 as1 H1 r1 l1 pr1 k1 v hv
      have q1 := Post.here (p1 F1 as1 H1 r1 l1 pr1 k1) r1
      cases hv with
      | @fzl a vs _ h1 h2 => exact ⟨a, rfl, ⟨vs, r1.sub.seq h1⟩, q1 _ (it_list h1 h2)⟩
    | .tup xs, z, p1 =>
      refine .inr ⟨N, F, as, env, st, r, ?_⟩
      rw [z]
      intro F1 as1 H1 r1 l1 pr1 k1 v hv
      have q1 := Post.here (p1 F1 as1 H1 r1 l1 pr1 k1) r1
      cases hv with
      | @tup a vs _ h1 h2 => exact ⟨a, rfl, ⟨vs, r1.sub.seqT h1⟩, q1 _ (it_tup h1 h2)⟩
    | .non, z, p1 => exact .inl ⟨N, F, as, env, st, r, by rw [z]; exact fun F1 as1 H1 r1 l1 pr1 k1 => (p1 F1 as1 H1 r1 l1 pr1 k1).elim⟩
    | .bl _, z, p1 => exact .inl ⟨N, F, as, env, st, r, by rw [z]; exact fun F1 as1 H1 r1 l1 pr1 k1 => (p1 F1 as1 H1 r1 l1 pr1 k1).elim⟩
    | .int _, z, p1 => exact .inl ⟨N, F, as, env, st, r, by rw [z]; exact fun F1 as1 H1 r1 l1 pr1 k1 => (p1 F1 as1 H1 r1 l1 pr1 k1).elim⟩
    | .str _, z, p1 => exact .inl ⟨N, F, as, env, st, r, by rw [z]; exact fun F1 as1 H1 r1 l1 pr1 k1 => (p1 F1 as1 H1 r1 l1 pr1 k1).elim⟩
    | .dic _ _, z, p1 => exact .inl ⟨N, F, as, env, st, r, by rw [z]; exact fun F1 as1 H1 r1 l1 pr1 k1 => (p1 F1 as1 H1 r1 l1 pr1 k1).elim⟩
    | .ref _, z, p1 => exact .inl ⟨N, F, as, env, st, r, by rw [z]; exact fun F1 as1 H1 r1 l1 pr1 k1 => (p1 F1 as1 H1 r1 l1 pr1 k1).elim⟩
    | .rep _, z, p1 => exact .inl ⟨N, F, as, env, st, r, by rw [z]; exact fun F1 as1 H1 r1 l1 pr1 k1 => (p1 F1 as1 H1 r1 l1 pr1 k1).elim⟩
theorem RepL.one {K : PySem.W.Frag} {F : Hp} {as : List Addr} {vs : List V} {d : D} (h : RepL K F as vs [d]) : ∃ v, vs = [v] ∧ Rep K F as v d := by
  cases h with
  | cons h t => cases t; exact ⟨_, rfl, h⟩
theorem RepL.two {K : PySem.W.Frag} {F : Hp} {as : List Addr} {vs : List V} {d e : D} (h : RepL K F as vs [d, e]) : ∃ v w, vs = [v, w] ∧ Rep K F as v d ∧ Rep K F as w e := by
  cases h with
  | cons h t =>
    obtain ⟨w, rfl, k⟩ := t.one
    exact ⟨_, _, rfl, h, k⟩
theorem post_if {α : Type} {c : Cc} {N : Addr → Prop} {F : Hp} {as : List Addr} {σ : L2.St} {H : Hp} {b : Bool} {m : M α} {e : En} {s : Sto} {P : α → En → Sto → Hp → List Addr → Hp → Prop} (h : Post c N F as σ H ((if b = true then m else noRes) e s) P) : b = true ∧ Post c N F as σ H (m e s) P := by
  cases b with
  | true => exact ⟨rfl, h⟩
  | false => exact h.elim
theorem i_rng1 {a : Expr} {A : M (List D)} (hg : Gl X "range") (hm : X.mg "range" = none) (hs : noStar a = true) (ha : PA X [a] (tA c A)) : PI X tg (.Call (.Name "range" p) [a] [] pos) (tI c (iRng1 A)) := by
  refine (pi_range1 hg hm ha (star_cons hs)).imp fun σ H R q => ?_
  obtain ⟨N, F, as, env, st, r, p⟩ := q
  refine ⟨N, F, as, env, st, r, (Post.bind p).mono fun ds e s F1 as1 H1 r1 _ _ _ q1 vs hv => ?_⟩
  match ds, hv, q1 with
  | [.int j], hv, q1 =>
    obtain ⟨v', rfl, h1⟩ := hv.one
    cases h1
    obtain ⟨hb, q1⟩ := post_if (m := ret (rangeD 0 j.toNat)) q1
    have b := rng_of hb
    exact ⟨j, rfl, b.1, b.2, Post.here q1 r1 _ it_range⟩
theorem i_rng2 {a b : Expr} {A : M (List D)} (hg : Gl X "range") (hm : X.mg "range" = none) (hs : noStar a = true) (hs2 : noStar b = true) (ha : PA X [a, b] (tA c A)) : PI X tg (.Call (.Name "range" p) [a, b] [] pos) (tI c (iRng2 A)) := by
  refine (pi_range2 hg hm ha (by rw [star_cons hs, star_cons hs2]; rfl) (star_cons hs2)).imp fun σ H R q => ?_
  obtain ⟨N, F, as, env, st, r, p⟩ := q
  refine ⟨N, F, as, env, st, r, (Post.bind p).mono fun ds e s F1 as1 H1 r1 _ _ _ q1 vs hv => ?_⟩
  match ds, hv, q1 with
  | [.int i, .int j], hv, q1 =>
    obtain ⟨v', w', rfl, h1, h2⟩ := hv.two
    cases h1
    cases h2
    obtain ⟨hb, q1⟩ := post_if (m := ret (rangeD i (j - i).toNat)) q1
    rw [Bool.and_eq_true] at hb
    have b := rng_of hb.1
    have b2 := rng_of hb.2
    exact ⟨i, j, rfl, ⟨b.1, b.2, b2.1, b2.2⟩, Post.here q1 r1 _ it_range⟩
theorem i_rng3 {a b d : Expr} {A : M (List D)} (hg : Gl X "range") (hm : X.mg "range" = none) (hs : noStars [a, b, d] = true) (ha : PA X [a, b, d] (tA c A))
    (pi : ∀ {ta : TA}, PA X [a, b, d] ta → PI X tg (.Call (.Name "range" p) [a, b, d] [] pos) (L2.iRng3 ta)) : PI X tg (.Call (.Name "range" p) [a, b, d] [] pos) (tI c (iRng3 A)) := by
  refine (pi ha).imp fun σ H R q => ?_
  obtain ⟨N, F, as, env, st, r, p⟩ := q
  refine ⟨N, F, as, env, st, r, (Post.bind p).mono fun ds e s F1 as1 H1 r1 _ _ _ q1 vs hv => ?_⟩
  match ds, hv, q1 with
  | [.int i, .int j, .int k], hv, q1 =>
    cases hv with
    | cons h1 t =>
      obtain ⟨v', w', rfl, h2, h3⟩ := t.two
      cases h1
      cases h2
      cases h3
      obtain ⟨hb, q2⟩ := post_if (m := ret (rangeC i (-1) (i - j).toNat)) q1
      rw [Bool.and_eq_true, Bool.and_eq_true, decide_eq_true_eq] at hb
      have b := rng_of hb.1.1
      have b2 := rng_of hb.1.2
      have ek := hb.2
      subst ek
      exact ⟨i, j, -1, (i - j).toNat, rfl, RgC.neg b.1 b.2 b2.1 b2.2, Post.here q2 r1 _ it_rangeC⟩
theorem i_enu (hK : c.K = X.K) {A : M (List D)} (hg : Gl X "enumerate") (hm : X.mg "enumerate" = none) (hs : noStar e = true) (ha : PA X [e] (tA c A)) : PI X (.Tuple elts kk tpos) (.Call (.Name "enumerate" p) [e] [] pos) (tI c (iEnu A)) := by
  refine (pi_enum hg hm ha (star_cons hs)).imp fun σ H R q => ?_
  rw [← hK]
  obtain ⟨N, F, as, env, st, r, p⟩ := q
  refine ⟨N, F, as, env, st, r, (Post.bind p).mono fun ds e s F1 as1 H1 r1 _ _ _ q1 vs hv => ?_⟩
  match ds, hv, q1 with
  | [.lst xs], hv, q1 =>
    obtain ⟨v', rfl, h1⟩ := hv.one
    cases h1 with
    | @lst a us _ h1 h2 => exact ⟨a, us, rfl, r1.sub.seq (.inl (.inl h1)), Post.here q1 r1 _ (it_enum (.inl (.inl h1)) h2)⟩
theorem i_zp (hK : c.K = X.K) {e2 : Expr} {A : M (List D)} (hg : Gl X "zip") (hm : X.mg "zip" = none) (ha : PA X [e, e2] (tA c A))
    (pi : ∀ {ta : TA}, PA X [e, e2] ta → PI X (.Tuple elts kk tpos) (.Call (.Name "zip" p) [e, e2] [] pos) (RZ.iZipA X.K ta)) : PI X (.Tuple elts kk tpos) (.Call (.Name "zip" p) [e, e2] [] pos) (tI c (iZp A)) := by
  refine (pi ha).imp fun σ H R q => ?_
  rw [← hK]
  obtain ⟨N, F, as, env, st, r, p⟩ := q
  refine ⟨N, F, as, env, st, r, (Post.bind p).mono fun ds e s F1 as1 H1 r1 _ _ _ q1 vs hv => ?_⟩
  match ds, hv, q1 with
  | [.lst xs, .lst ys], hv, q1 =>
    obtain ⟨v', w', rfl, h1, h2⟩ := hv.two
    cases h1 with
    | @lst a us _ h1 h3 =>
      cases h2 with
      | @lst b ws _ h2 h4 => exact ⟨a, b, us, ws, rfl, .inl ⟨r1.sub.seq (.inl (.inl h1)), r1.sub.seq (.inl (.inl h2)), Post.here q1 r1 _ (it_zip (.inl (.inl h1)) h3 (.inl (.inl h2)) h4)⟩⟩
  | [.tup xs, .tup ys], hv, q1 =>
    obtain ⟨v', w', rfl, h1, h2⟩ := hv.two
    cases h1 with
    | @tup a us _ h1 h3 =>
      cases h2 with
      | @tup b ws _ h2 h4 => exact ⟨a, b, us, ws, rfl, .inr ⟨r1.sub.seqT h1, r1.sub.seqT h2, Post.here q1 r1 _ (it_zipT h1 h3 h2 h4)⟩⟩
theorem i_rv (hK : c.K = X.K) {A : M D} (h : PE X e (tE c A)) (pi : ∀ {te : TE}, PE X e te → PI X tg (.Call (.Name "reversed" p) [e] [] pos) (RT.iRevA X.K te)) : PI X tg (.Call (.Name "reversed" p) [e] [] pos) (tI c (iRv A)) := by
  refine (pi h).imp fun σ H R q => ?_
  rw [← hK]
  obtain ⟨N, F, as, env, st, r, p⟩ := q
  refine ⟨N, F, as, env, st, r, (Post.bind p).mono fun d e s F1 as1 H1 r1 _ _ _ q1 v hv => ?_⟩
  match d, hv, q1 with
  | .lst xs, hv, q1 =>
    cases hv with
    | @lst a us _ h1 h2 => exact ⟨a, us, rfl, .inl ⟨r1.sub.seq (.inl (.inl h1)), Post.here q1 r1 _ (it_rev (.inl (.inl h1)) h2)⟩⟩
  | .tup xs, hv, q1 =>
    cases hv with
    | @tup a us _ h1 h2 => exact ⟨a, us, rfl, .inr ⟨r1.sub.seqT h1, Post.here q1 r1 _ (it_revT h1 h2)⟩⟩
end
end PD
/-! PD, part 13: for, while, comprehensions -/
namespace PD
open PySem PySem.Spec PyProof.Rows L2

def loopF (next : SM) : Res Flw → Res Flw
  | .ok .nx e s => next e s
  | .ok .ct e s => next e s
  | .ok .bk e s => .ok .nx e s
  | r => r
def forL (tg : TgF) (B : SM) : List D → SM
  | [] => sNil
  | d :: ds => fun e s => match tg d e with
    | none => .bad
    | some e' => loopF (forL tg B ds) (B e' s)
def sFor (it : M (List D)) (tg : TgF) (B : SM) : SM := bnd it (forL tg B)
def whl (T : M Bool) (B : SM) : Nat → SM
  | 0 => noRes
  | n + 1 => bnd T fun k => if k then fun e s => loopF (whl T B n) (B e s) else sNil
def sWhile (T : M Bool) (B : SM) : SM := whl T B 1000000
section
variable {c : Cc} {D : Ends} {σ : L2.St} {H : Hp}
theorem post_loop {N : Addr → Prop} {F : Hp} {as : List Addr} {next : SM} {r : Res Flw} {Nx : L2.St → Hp → Prop} (h : PostS c N F as H D (loopF next r))
    (k : ∀ e s σ' F' as' H', Rel c.K N F' as' e s σ' H' → Le F F' → Pre as as' → Ks N H H' → PostS c N F' as' H' D (next e s) → Nx σ' H') : PostS c N F as H { D with nx := Nx, ct := Nx, bk := D.nx } r := by
  match r, h with
  | .ok .nx e s, h => exact fun σ' F' as' H' r l p q => k e s σ' F' as' H' r l p q (PostS.rebase (r := next e s) h l p q)
  | .ok .ct e s, h => exact fun σ' F' as' H' r l p q => k e s σ' F' as' H' r l p q (PostS.rebase (r := next e s) h l p q)
  | .ok .bk e s, h => exact h
  | .ok (.rt d) e s, h => exact h
  | .exc x e s, h => exact h
  | .bad, h => exact h
theorem tS_for {it : M (List PD.D)} {tg : TgF} {sl : List Nat} {B : SM} (h : tS c (sFor it tg B) D σ H) : tFor (tI c it) (gT c sl tg) (tS c B) D σ H := by
  obtain ⟨N, F, as, env, st, r, p⟩ := h
  refine ⟨N, F, as, env, st, r, (PostS.bind r p).mono fun items e s F1 as1 H1 r1 _ _ _ q J hJ => ?_⟩
  refine ⟨fun i m σ' H' => m = items.length - i ∧ i ≤ items.length ∧ ∃ F' as' e' s', Rel c.K N F' as' e' s' σ' H' ∧ Le F1 F' ∧ Pre as1 as' ∧ PostS c N F' as' H' D (forL tg B (items.drop i) e' s'),
    ⟨items.length, rfl, Nat.zero_le _, F1, as1, e, s, r1, Le.refl _, Pre.refl _, q⟩, ?_⟩
  rintro i m σ2 H2 ⟨rfl, hi, F2, as2, e2, s2, r2, l2, p2, q2⟩
  by_cases hlt : i < items.length
  · refine .inr ⟨hJ.go i F2 H2 l2 r2.sub hlt, fun σ' H' => ∃ F' as' e' s', Rel c.K N F' as' e' s' σ' H' ∧ Le F1 F' ∧ Pre as1 as' ∧ PostS c N F' as' H' D (forL tg B (items.drop (i + 1)) e' s'),
      fun σ' H' hN => ⟨items.length - (i + 1), by omega, rfl, hlt, hN⟩, fun x H3 hy => ?_⟩
    rw [List.drop_eq_getElem_cons hlt] at q2
    have go : ∀ F3, Rel c.K N F3 as2 e2 s2 σ2 H3 → Le F2 F3 → Ks N H2 H3 → Rep c.K F3 as2 x items[i] → gT c sl tg x σ2 H3 fun σ4 H4 => tS c B { D with nx := fun σ' H' => ∃ F' as' e' s', Rel c.K N F' as' e' s' σ' H' ∧ Le F1 F' ∧ Pre as1 as' ∧ PostS c N F' as' H' D (forL tg B (items.drop (i + 1)) e' s'), ct := fun σ' H' => ∃ F' as' e' s', Rel c.K N F' as' e' s' σ' H' ∧ Le F1 F' ∧ Pre as1 as' ∧ PostS c N F' as' H' D (forL tg B (items.drop (i + 1)) e' s'), bk := D.nx } σ4 H4 := by
      intro F3 r3 l3 k3 hx
      have q3 : PostS c N F2 as2 H2 D (match tg items[i] e2 with
        | none => .bad
        | some e' => loopF (forL tg B (items.drop (i + 1))) (B e' s2)) := q2
      cases z : tg items[i] e2 with
      | none => rw [z] at q3; exact q3.elim
      | some e3 =>
        rw [z] at q3
        have q4 := PostS.rebase q3 l3 (Pre.refl _) k3
        refine ⟨N, F3, as2, e2, s2, items[i], e3, r3, hx, z, fun σ4 r4 _ _ => ⟨N, F3, as2, e3, s2, r4, post_loop q4 fun e5 s5 σ5 F5 as5 H5 r5 l5 p5 k5 q5 => ?_⟩⟩
        exact ⟨F5, as5, e5, s5, r5, l2.trans (l3.trans l5), p2.trans p5, q5⟩
    rcases hJ.yld i F2 as2 H2 x H3 items[i] l2 r2.sub p2 (List.getElem?_eq_getElem hlt) hy with ⟨rfl, hx⟩ | ⟨T, us, ds, hT, rfl, rfl, ed, hx⟩
    · exact go F2 r2 (Le.refl _) (Ks.refl _ _) hx
    · have hf := r2.sub.none hT
      refine go (upd F2 T (.tup us)) (r2.lay hT) (Le.put hf) ((Kp.put (as := as2) hT).ks r2) ?_
      rw [ed]
      exact .tup (.inl (.inl upd_same)) (hx.mono (Le.put hf) (Pre.refl _))
  · have ei : i = items.length := by omega
    subst ei
    refine .inl ⟨hJ.stop _ F2 H2 l2 r2.sub (Nat.le_refl _), ?_⟩
    rw [List.drop_length] at q2
    exact q2 σ2 F2 as2 H2 r2 (Le.refl _) (Pre.refl _) (Ks.refl _ _)
theorem tS_while {T : M Bool} {B : SM} (h : tS c (sWhile T B) D σ H) : tWhile (tT c T) (tS c B) D σ H := by
  obtain ⟨N, F, as, env, st, r, p⟩ := h
  refine ⟨fun m σ' H' => ∃ F' as' e' s', Rel c.K N F' as' e' s' σ' H' ∧ PostS c N F' as' H' D (whl T B m e' s'), ⟨1000000, F, as, env, st, r, p⟩, ?_⟩
  rintro m σ1 H1 ⟨F1, as1, e1, s1, r1, q1⟩
  cases m with
  | zero => exact q1.elim
  | succ m =>
    refine ⟨N, F1, as1, e1, s1, r1, (PostS.bind r1 q1).mono fun k e2 s2 F2 as2 H2 r2 _ _ _ q2 => ?_⟩
    cases k with
    | true =>
      rw [if_pos rfl] at q2 ⊢
      refine ⟨fun σ' H' => ∃ F' as' e' s', Rel c.K N F' as' e' s' σ' H' ∧ PostS c N F' as' H' D (whl T B m e' s'), fun σ' H' hN => ⟨m, Nat.lt_succ_self m, hN⟩, N, F2, as2, e2, s2, r2, post_loop q2 fun e5 s5 σ5 F5 as5 H5 r5 l5 p5 k5 q5 => ⟨F5, as5, e5, s5, r5, q5⟩⟩
    | false =>
      rw [if_neg Bool.false_ne_true] at q2 ⊢
      exact q2 σ1 F2 as2 H2 r2 (Le.refl _) (Pre.refl _) (Ks.refl _ _)
end

/-! ### comprehensions -/
def wipeE (e : En) : List Nat → En
  | [] => e
  | v :: vs => (wipeE e vs).set v .un
def unw (e0 : En) : List Nat → En → En
  | [], e => e
  | v :: vs, e => (unw e0 vs e).set v (e0[v]?.getD .un)
def isOwn : Option Sl → Bool
  | some (.own _) => true
  | _ => false
def noOwn (vs : List Nat) (e : En) : Bool := vs.all fun v => !isOwn e[v]?
def lcL (tg : TgF) (tst : M Bool) (elt : M D) (vs : List Nat) : List D → M (List D)
  | [] => ret []
  | d :: ds => fun e s => match tg d (wipeE e vs) with
    | none => .bad
    | some e1 => match tst e1 s with
      | .ok true e2 s2 => match elt e2 s2 with
        | .ok y e3 s3 => match lcL tg tst elt vs ds (unw e vs e3) s3 with
          | .ok ys e4 s4 => .ok (y :: ys) e4 s4
          | _ => .bad
        | _ => .bad
      | .ok false e2 s2 => lcL tg tst elt vs ds (unw e vs e2) s2
      | _ => .bad
def lcP (tg : TgF) (tst : M Bool) (elt : M D) (vs : List Nat) (items : List D) : M PR := fun e s =>
  if noOwn vs e && decide (items.length ≤ lim) then match lcL tg tst elt vs items e s with
    | .ok ys e2 s2 => .ok (.new (.lst ys)) e2 s2
    | _ => .bad
  else .bad
def pLc (it : M (List D)) (tg : TgF) (tst : M Bool) (elt : M D) (vs : List Nat) : M PR := bnd it (lcP tg tst elt vs)
def tstT : M Bool := ret true
theorem lcL_cons {tg : TgF} {tst : M Bool} {elt : M D} {vs : List Nat} {d : D} {ds ys : List D} {e eF : En} {s sF : Sto} (h : lcL tg tst elt vs (d :: ds) e s = .ok ys eF sF) :
    ∃ e1, tg d (wipeE e vs) = some e1 ∧ ∃ b e2 s2, tst e1 s = .ok b e2 s2 ∧ ((b = false ∧ lcL tg tst elt vs ds (unw e vs e2) s2 = .ok ys eF sF) ∨
      (b = true ∧ ∃ y e3 s3 ys', elt e2 s2 = .ok y e3 s3 ∧ lcL tg tst elt vs ds (unw e vs e3) s3 = .ok ys' eF sF ∧ ys = y :: ys')) := by
  unfold lcL at h
  cases z : tg d (wipeE e vs) with
  | none => rw [z] at h; cases h
  | some e1 =>
    rw [z] at h
    refine ⟨e1, rfl, ?_⟩
    cases z2 : tst e1 s with
    | ok b e2 s2 =>
      simp only [z2] at h
      cases b with
      | true =>
        cases z3 : elt e2 s2 with
        | ok y e3 s3 =>
          simp only [z3] at h
          cases z4 : lcL tg tst elt vs ds (unw e vs e3) s3 with
          | ok ys' e4 s4 =>
            simp only [z4] at h
            cases h
            exact ⟨true, e2, s2, rfl, .inr ⟨rfl, y, e3, s3, ys', z3, z4, rfl⟩⟩
          | exc _ _ _ => simp only [z4] at h; cases h
          | bad => simp only [z4] at h; cases h
        | exc _ _ _ => simp only [z3] at h; cases h
        | bad => simp only [z3] at h; cases h
      | false => exact ⟨false, e2, s2, rfl, .inl ⟨rfl, h⟩⟩
    | exc _ _ _ => simp only [z2] at h; cases h
    | bad => simp only [z2] at h; cases h

section
variable {c : Cc} {σ : L2.St} {H : Hp} {N : Addr → Prop} {F : Hp} {as : List Addr} {env : En} {st : Sto}
theorem wipeE_len (e : En) : ∀ vs, (wipeE e vs).length = e.length
  | [] => rfl
  | v :: vs => by unfold wipeE; rw [List.length_set, wipeE_len e vs]
theorem wipeE_get (e : En) : ∀ (vs : List Nat) (j : Nat) (x : Sl), (wipeE e vs)[j]? = some x → (j ∈ vs ∧ x = .un) ∨ (j ∉ vs ∧ e[j]? = some x)
  | [], j, x, h => .inr ⟨by simp, h⟩
  | v :: vs, j, x, h => by
    unfold wipeE at h
    rcases get_set h with ⟨rfl, rfl⟩ | ⟨nj, h⟩
    · exact .inl ⟨by simp, rfl⟩
    · rcases wipeE_get e vs j x h with ⟨h1, h2⟩ | ⟨h1, h2⟩
      · exact .inl ⟨by simp [h1], h2⟩
      · exact .inr ⟨by simp [h1, nj], h2⟩
theorem wipe_get (σ : L2.St) : ∀ (vs : List Nat) (j : Nat), j ∉ vs → (wipe σ vs)[j]? = σ[j]?
  | [], _, _ => rfl
  | v :: vs, j, h => by
    unfold wipe
    rw [List.getElem?_set_ne (fun z => h (by simp [z])), wipe_get σ vs j (fun z => h (by simp [z]))]
theorem wipe_in (σ : L2.St) : ∀ (vs : List Nat) (j : Nat), j ∈ vs → j < σ.length → (wipe σ vs)[j]? = some none
  | [], _, h, _ => by simp at h
  | v :: vs, j, h, hl => by
    unfold wipe
    by_cases e : j = v
    · subst e
      rw [List.getElem?_set_self (by rw [wipe_length]; exact hl)]
    · rw [List.getElem?_set_ne (fun z => e z.symm)]
      exact wipe_in σ vs j (by simpa [e] using h) hl
theorem wipe_eq {σ σ2 : L2.St} {vs : List Nat} (hl : σ2.length = σ.length) (h : ∀ j : Nat, j ∉ vs → σ2[j]? = σ[j]?) : wipe σ2 vs = wipe σ vs := by
  apply List.ext_getElem?
  intro j
  by_cases hj : j ∈ vs
  · by_cases hlt : j < σ.length
    · rw [wipe_in σ vs j hj hlt, wipe_in σ2 vs j hj (by rw [hl]; exact hlt)]
    · rw [List.getElem?_eq_none (by rw [wipe_length]; omega), List.getElem?_eq_none (by rw [wipe_length]; omega)]
  · rw [wipe_get σ vs j hj, wipe_get σ2 vs j hj, h j hj]
theorem Rel.wiped (r : Rel c.K N F as env st σ H) (vs : List Nat) : Rel c.K N F as (wipeE env vs) st (wipe σ vs) H := by
  refine ⟨r.sub, by rw [wipeE_len, wipe_length]; exact r.len, fun i d e => ?_, fun i o e => ?_, r.slen, r.sto, r.snd, r.sfr, r.out⟩
  · rcases wipeE_get env vs i _ e with ⟨_, z⟩ | ⟨h1, h2⟩
    · cases z
    · obtain ⟨v, g1, g2⟩ := r.val i d h2
      exact ⟨v, by rw [wipe_get σ vs i h1]; exact g1, g2⟩
  · rcases wipeE_get env vs i _ e with ⟨_, z⟩ | ⟨h1, h2⟩
    · cases z
    · obtain ⟨p, ho, g1, g2, g3, g4, g5, g6, g7⟩ := r.own i o h2
      refine ⟨p, ho, by rw [wipe_get σ vs i h1]; exact g1, g2, g3, g4, g5, g6, fun j o' e' z => ?_⟩
      rcases wipeE_get env vs j _ e' with ⟨_, z'⟩ | ⟨k1, k2⟩
      · cases z'
      · rw [wipe_get σ vs j k1] at z
        exact g7 j o' k2 z
theorem unw_len (e0 e : En) : ∀ vs, (unw e0 vs e).length = e.length
  | [] => rfl
  | v :: vs => by unfold unw; rw [List.length_set, unw_len e0 e vs]
theorem unw_get (e0 e : En) : ∀ (vs : List Nat) (j : Nat) (x : Sl), (unw e0 vs e)[j]? = some x → (j ∈ vs ∧ x = e0[j]?.getD .un) ∨ (j ∉ vs ∧ e[j]? = some x)
  | [], j, x, h => .inr ⟨by simp, h⟩
  | v :: vs, j, x, h => by
    unfold unw at h
    rcases get_set h with ⟨rfl, rfl⟩ | ⟨nj, h⟩
    · exact .inl ⟨by simp, rfl⟩
    · rcases unw_get e0 e vs j x h with ⟨h1, h2⟩ | ⟨h1, h2⟩
      · exact .inl ⟨by simp [h1], h2⟩
      · exact .inr ⟨by simp [h1, nj], h2⟩
theorem own_not {vs : List Nat} {e : En} (h : noOwn vs e = true) {j : Nat} (hj : j ∈ vs) (o : OD) : e[j]? ≠ some (.own o) := fun z => by
  unfold noOwn at h
  rw [List.all_eq_true] at h
  have := h j hj
  rw [z] at this
  cases this
theorem Rel.unwiped {F' : Hp} {as' : List Addr} {e2 : En} {s2 : Sto} {σ2 : L2.St} {H' : Hp} {vs : List Nat} (r0 : Rel c.K N F as env st σ H) (hn : noOwn vs env = true) (r : Rel c.K N F' as' e2 s2 σ2 H') (hF : Le F F') (ha : Pre as as') (hl : σ2.length = σ.length) (hs : ∀ j : Nat, j ∉ vs → σ2[j]? = σ[j]?) :
    Rel c.K N F' as' (unw env vs e2) s2 σ H' ∧ noOwn vs (unw env vs e2) = true := by
  refine ⟨⟨r.sub, by rw [unw_len, r.len, hl], fun i d e => ?_, fun i o e => ?_, r.slen, r.sto, r.snd, r.sfr, r.out⟩, ?_⟩
  · rcases unw_get env e2 vs i _ e with ⟨h1, h2⟩ | ⟨h1, h2⟩
    · cases z : env[i]? with
      | none => rw [z] at h2; cases h2
      | some x =>
        rw [z] at h2
        cases h2
        obtain ⟨v, g1, g2⟩ := r0.val i d z
        exact ⟨v, g1, g2.mono hF ha⟩
    · obtain ⟨v, g1, g2⟩ := r.val i d h2
      exact ⟨v, by rw [← hs i h1]; exact g1, g2⟩
  · rcases unw_get env e2 vs i _ e with ⟨h1, h2⟩ | ⟨h1, h2⟩
    · cases z : env[i]? with
      | none => rw [z] at h2; cases h2
      | some x =>
        rw [z] at h2
        cases h2
        exact absurd z (own_not hn h1 o)
    · obtain ⟨p, ho, g1, g2, g3, g4, g5, g6, g7⟩ := r.own i o h2
      refine ⟨p, ho, by rw [← hs i h1]; exact g1, g2, g3, g4, g5, g6, fun j o' e' z => ?_⟩
      rcases unw_get env e2 vs j _ e' with ⟨k1, k2⟩ | ⟨k1, k2⟩
      · cases z' : env[j]? with
        | none => rw [z'] at k2; cases k2
        | some x =>
          rw [z'] at k2
          cases k2
          exact absurd z' (own_not hn k1 o')
      · rw [← hs j k1] at z
        exact g7 j o' k2 z
  · unfold noOwn
    rw [List.all_eq_true]
    intro j hj
    cases z : (unw env vs e2)[j]? with
    | none => rfl
    | some x =>
      rcases unw_get env e2 vs j _ z with ⟨h1, h2⟩ | ⟨h1, h2⟩
      · cases x with
        | own o =>
          cases z' : env[j]? with
          | none => rw [z'] at h2; cases h2
          | some x =>
            rw [z'] at h2
            cases h2
            exact absurd z' (own_not hn h1 o)
        | un => rfl
        | val d => rfl
      · exact absurd hj h1
/-- what is others' may be written by them -/
theorem Rel.outside (r : Rel c.K N F as env st σ H) {p : Addr} {ho : HO} (n : N p) : Rel c.K N F as env st σ (upd H p ho) := by
  obtain ⟨h1, h2, o, h3⟩ := r.out p n
  refine ⟨fun a u z => ?_, r.len, r.val, fun j od z => ?_, r.slen, fun m ys z => ?_, r.snd, r.sfr, fun a na => ?_⟩
  · rw [upd_ne (ne_of_none z h1)]
    exact r.sub a u z
  · obtain ⟨a, hoa, k1, k2, k3, k4, k5, k6, k7⟩ := r.own j od z
    refine ⟨a, hoa, k1, ?_, k3, k4, k5, k6, k7⟩
    rw [upd_ne (show a ≠ p from fun w => k6 (w ▸ n))]
    exact k2
  · obtain ⟨a, vs, k1, k2, k3⟩ := r.sto m ys z
    refine ⟨a, vs, k1, ?_, k3⟩
    rw [upd_ne (show a ≠ p from fun w => h2 (w ▸ List.mem_of_getElem? k1))]
    exact k2
  · obtain ⟨k1, k2, u, k3⟩ := r.out a na
    by_cases w : a = p
    · subst w
      exact ⟨k1, k2, ho, upd_same⟩
    · exact ⟨k1, k2, u, by rw [upd_ne w]; exact k3⟩
theorem Rel.addN (r : Rel c.K N F as env st σ H) {p : Addr} {ho : HO} (h : H p = none) : Rel c.K (fun a => N a ∨ a = p) F as env st σ (upd H p ho) := by
  obtain ⟨h1, h2, h3, h4⟩ := r.fresh h
  have r2 := r.alloc (o := ho) h
  refine ⟨r2.sub, r2.len, r2.val, fun j od z => ?_, r2.slen, r2.sto, r2.snd, r2.sfr, fun a na => ?_⟩
  · obtain ⟨a, hoa, k1, k2, k3, k4, k5, k6, k7⟩ := r2.own j od z
    refine ⟨a, hoa, k1, k2, k3, k4, k5, fun w => ?_, k7⟩
    rcases w with w | w
    · exact k6 w
    · exact h4 j od z (by rw [k1, w])
  · rcases na with na | rfl
    · exact r2.out a na
    · exact ⟨h1, h2, ho, upd_same⟩
/-- without exceptions -/
def Cc.noW (c : Cc) : Cc := { c with W := fun _ _ _ _ => False }
theorem tP_lc {it : M (List D)} {tg : TgF} {tst : M Bool} {elt : M D} {vs sl : List Nat} {Q : VK} (hsl : ∀ j ∈ sl, j ∈ vs) (h : tP c (pLc it tg tst elt vs) σ H Q) : tLc (tI c it) (gT c.noW sl tg) (tT c.noW tst) (tE c.noW elt) vs σ H Q := by
  obtain ⟨N, F, as, env, st, r, p⟩ := h
  refine ⟨N, F, as, env, st, r, (Post.bind p).mono fun items e s F1 as1 H1 r1 _ _ _ q J hJ => ?_⟩
  intro B hB
  unfold lcP at q
  by_cases hg : (noOwn vs e && decide (items.length ≤ lim)) = true
  case neg => rw [if_neg hg] at q; exact q.elim
  rw [if_pos hg] at q
  rw [Bool.and_eq_true, decide_eq_true_eq] at hg
  obtain ⟨hno, hlen⟩ := hg
  cases z : lcL tg tst elt vs items e s with
  | exc _ _ _ => simp only [z] at q; exact q.elim
  | bad => simp only [z] at q; exact q.elim
  | ok all eF sF =>
  simp only [z] at q
  have nB : ¬ N B := (r1.fresh hB).2.2.1
  refine ⟨fun i m H' => m = items.length - i ∧ i ≤ items.length ∧ ∃ F' as' e' s' acc ys1 ys, Rel c.K (fun a => N a ∨ a = B) F' as' e' s' σ H' ∧ Le F1 F' ∧ Pre as1 as' ∧ Kp as1 as' H1 H' ∧ noOwn vs e' = true ∧ H' B = some (.lst acc) ∧ RepL c.K F' as' acc ys1 ∧ ys1.length ≤ i ∧
      lcL tg tst elt vs (items.drop i) e' s' = .ok ys eF sF ∧ all = ys1 ++ ys,
    ⟨items.length, rfl, Nat.zero_le _, F1, as1, e, s, [], [], all, r1.addN hB, Le.refl _, Pre.refl _, Kp.put hB, hno, upd_same, .nil, Nat.le_refl _, z, rfl⟩, ?_⟩
  rintro i m H2 ⟨rfl, hi, F2, as2, e2, s2, acc, ys1, ys, r2, l2, p2, k2, hn2, hB2, ra, hle, hz, rfl⟩
  by_cases hlt : i < items.length
  · refine .inr ⟨hJ.go i F2 H2 l2 r2.sub hlt, fun H' => ∃ F' as' e' s' acc ys1' ys', Rel c.K (fun a => N a ∨ a = B) F' as' e' s' σ H' ∧ Le F1 F' ∧ Pre as1 as' ∧ Kp as1 as' H1 H' ∧ noOwn vs e' = true ∧ H' B = some (.lst acc) ∧ RepL c.K F' as' acc ys1' ∧ ys1'.length ≤ i + 1 ∧
        lcL tg tst elt vs (items.drop (i + 1)) e' s' = .ok ys' eF sF ∧ ys1 ++ ys = ys1' ++ ys', fun H' hN => ⟨items.length - (i + 1), by omega, rfl, hlt, hN⟩, fun x H3 hy => ?_⟩
    rw [List.drop_eq_getElem_cons hlt] at hz
    obtain ⟨e3, g1, b, e4, s4, g2, g3⟩ := lcL_cons hz
    have go : ∀ F3, Rel c.K (fun a => N a ∨ a = B) F3 as2 e2 s2 σ H3 → Le F2 F3 → Kp as1 as2 H1 H3 → H3 B = some (.lst acc) → Rep c.K F3 as2 x items[i] → gT c.noW sl tg x (wipe σ vs) H3 fun σ2 H2 => wipe σ2 vs = wipe σ vs ∧ tT c.noW tst σ2 H2 fun b H3 =>
        if b = true then tE c.noW elt σ2 H3 fun y H4 => ∃ acc, H4 B = some (.lst acc) ∧ acc.length < sizeLine ∧ ∃ F' as' e' s' acc' ys1' ys', Rel c.K (fun a => N a ∨ a = B) F' as' e' s' σ (upd H4 B (.lst (acc ++ [y]))) ∧ Le F1 F' ∧ Pre as1 as' ∧ Kp as1 as' H1 (upd H4 B (.lst (acc ++ [y]))) ∧ noOwn vs e' = true ∧ (upd H4 B (.lst (acc ++ [y]))) B = some (.lst acc') ∧ RepL c.K F' as' acc' ys1' ∧ ys1'.length ≤ i + 1 ∧
        lcL tg tst elt vs (items.drop (i + 1)) e' s' = .ok ys' eF sF ∧ ys1 ++ ys = ys1' ++ ys'
        else ∃ F' as' e' s' acc ys1' ys', Rel c.K (fun a => N a ∨ a = B) F' as' e' s' σ H3 ∧ Le F1 F' ∧ Pre as1 as' ∧ Kp as1 as' H1 H3 ∧ noOwn vs e' = true ∧ H3 B = some (.lst acc) ∧ RepL c.K F' as' acc ys1' ∧ ys1'.length ≤ i + 1 ∧
        lcL tg tst elt vs (items.drop (i + 1)) e' s' = .ok ys' eF sF ∧ ys1 ++ ys = ys1' ++ ys' := by
      intro F3 r3 l3 k3 hB3 hx
      refine ⟨_, F3, as2, wipeE e2 vs, s2, items[i], e3, r3.wiped vs, hx, g1, fun σ4 r4 len4 out4 => ?_⟩
      have sl4 : σ4.length = σ.length := by rw [len4, wipe_length]
      have so4 : ∀ j : Nat, j ∉ vs → σ4[j]? = σ[j]? := fun j hj => by rw [out4 j (fun w => hj (hsl j w)), wipe_get σ vs j hj]
      refine ⟨wipe_eq sl4 so4, _, F3, as2, e3, s2, r4, ?_⟩
      rw [g2]
      intro F5 as5 H5 r5 l5 p5 k5
      have hB5 : H5 B = some (.lst acc) := k5.keep B _ hB3 (r4.out B (.inr rfl)).2.1
      rcases g3 with ⟨rfl, g3⟩ | ⟨rfl, y, e6, s6, ys', g3, g4, rfl⟩
      · refine iteF ?_
        obtain ⟨u1, u2⟩ := r3.unwiped hn2 r5 l5 p5 sl4 so4
        exact ⟨F5, as5, _, _, acc, ys1, ys, u1, l2.trans (l3.trans l5), p2.trans p5, k3.trans p2 k5, u2, hB5, ra.mono (l3.trans l5) p5, Nat.le_succ_of_le hle, g3, rfl⟩
      · refine iteT ?_
        refine ⟨_, F5, as5, e4, s4, r5, ?_⟩
        rw [g3]
        intro F7 as7 H7 r7 l7 p7 k7 v hv
        have hB7 : H7 B = some (.lst acc) := k7.keep B _ hB5 (r5.out B (.inr rfl)).2.1
        obtain ⟨u1, u2⟩ := r3.unwiped hn2 r7 (l5.trans l7) (p5.trans p7) sl4 so4
        have la := ra.len
        refine ⟨acc, hB7, by rw [la]; exact Nat.lt_of_le_of_lt hle (Nat.lt_of_lt_of_le hlt (lim_ok hlen)), F7, as7, _, _, acc ++ [v], ys1 ++ [y], ys', u1.outside (.inr rfl), l2.trans (l3.trans (l5.trans l7)), p2.trans (p5.trans p7), ?_, u2, upd_same, (ra.mono (l3.trans (l5.trans l7)) (p5.trans p7)).append (.cons hv .nil), ?_, g4, ?_⟩
        · have kk := (k3.trans p2 k5).trans (p2.trans p5) k7
          refine ⟨fun a o ha na => ?_, kk.new⟩
          rw [upd_ne (ne_of_none ha hB)]
          exact kk.keep a o ha na
        · rw [List.length_append, List.length_singleton]
          omega
        · rw [List.append_assoc]
          rfl
    rcases hJ.yld i F2 as2 H2 x H3 items[i] l2 r2.sub p2 (List.getElem?_eq_getElem hlt) hy with ⟨rfl, hx⟩ | ⟨T, us, ds, hT, rfl, rfl, ed, hx⟩
    · exact go F2 r2 (Le.refl _) k2 hB2 hx
    · have hf := r2.sub.none hT
      refine go (upd F2 T (.tup us)) (r2.lay hT) (Le.put hf) (k2.trans p2 (Kp.put hT)) (Le.put hT _ _ hB2) ?_
      rw [ed]
      exact .tup (.inl (.inl upd_same)) (hx.mono (Le.put hf) (Pre.refl _))
  · have ei : i = items.length := by omega
    subst ei
    refine .inl ⟨hJ.stop _ F2 H2 l2 r2.sub (Nat.le_refl _), ?_⟩
    rw [List.drop_length] at hz
    cases hz
    rw [List.append_nil] at q
    have out := r2.out B (.inr rfl)
    refine q F2 as2 H2 (r2.weaken fun a n => .inl n) l2 p2 k2 (.ref B) ⟨B, _, rfl, hB2, .lst ra, out.1, out.2.1, nB, fun j o' ej w => ?_⟩
    obtain ⟨p', ho', w1, _, _, _, _, w6, _⟩ := r2.own j o' ej
    rw [w] at w1
    cases w1
    exact w6 (.inr rfl)
end
end PD
set_option exponentiation.threshold 5000
/-! PD, part 14: repr, count, dict(pairs), list(range), list(reversed), the law's bag -/
namespace PD
open PySem PySem.Spec PyProof.Rows L2

/-! repr -/
def shI (i : Int) : Bool := decide (-(2 ^ 1900) < i) && decide (i < 2 ^ 1900)
mutual
def shD : D → Bool
  | .int i => shI i
  | .str x => x.cps.toList.all fun c => decide (c < 1114112)
  | .lst xs => shDL xs
  | .tup xs => shDL xs
  | .fzl xs => shDL xs
  | _ => true
def shDL : List D → Bool
  | [] => true
  | x :: xs => shD x && shDL xs
end
theorem sh_int {i : Int} (h : shI i = true) : i.natAbs.log2 < 1920 ∧ (PyData.shown (.int i)).length ≤ 2000 := by
  unfold shI at h
  simp only [Bool.and_eq_true, decide_eq_true_eq] at h
  have e : ((2 ^ 1900 : Nat) : Int) = (2 : Int) ^ 1900 := by rw [Int.natCast_pow]; rfl
  have hn : i.natAbs < 2 ^ 1900 := by
    generalize (2 : Nat) ^ 1900 = m at *
    rw [← e] at h
    omega
  have h3 : i.natAbs.log2 < 1920 := Nat.lt_of_lt_of_le (log2_lt (by decide) hn) (by decide)
  refine ⟨h3, ?_⟩
  have h4 : (Str.ofString (toString i)).length ≤ 1921 := by
    rw [PySem.ofString_length]
    exact int_text_length_le (by decide) h3
  exact Nat.le_trans h4 (by decide)
mutual
theorem sh_py : ∀ {d : D} {p : PyData}, shD d = true → toPy d = some p → p.showable = true ∧ p.leavesShort 2000 = true ∧ p.hasDict = false
  | .non, _, _, e => by cases e; exact ⟨rfl, rfl, rfl⟩
  | .bl _, _, _, e => by cases e; exact ⟨rfl, rfl, rfl⟩
  | .int i, _, h, e => by
    cases e
    rw [shD] at h
    obtain ⟨h1, h2⟩ := sh_int h
    exact ⟨by rw [PyData.showable]; exact decide_eq_true h1, by rw [PyData.leavesShort]; exact decide_eq_true h2, rfl⟩
  | .str x, _, h, e => by
    cases e
    rw [shD] at h
    refine ⟨rfl, ?_, rfl⟩
    rw [PyData.leavesShort]
    rw [List.all_eq_true] at h ⊢
    intro c hc
    have := of_decide_eq_true (h c hc)
    exact decide_eq_true (Nat.lt_of_lt_of_le this (by decide))
  | .lst xs, _, h, e => by
    rw [shD] at h
    rw [toPy] at e
    cases q : toPyL xs with
    | none => rw [q] at e; cases e
    | some ps =>
      rw [q] at e; cases e
      have := shL_py (ds := xs) h q
      exact this
  | .tup xs, _, h, e => by
    rw [shD] at h
    rw [toPy] at e
    cases q : toPyL xs with
    | none => rw [q] at e; cases e
    | some ps =>
      rw [q] at e; cases e
      have := shL_py (ds := xs) h q
      exact this
  | .fzl xs, _, h, e => by
    rw [shD] at h
    rw [toPy] at e
    cases q : toPyL xs with
    | none => rw [q] at e; cases e
    | some ps =>
      rw [q] at e; cases e
      have := shL_py (ds := xs) h q
      exact this
  | .dic _ _, _, _, e => by rw [toPy] at e; cases e
  | .ref _, _, _, e => by rw [toPy] at e; cases e
  | .rep _, _, _, e => by rw [toPy] at e; cases e
theorem shL_py : ∀ {ds : List D} {ps : List PyData}, shDL ds = true → toPyL ds = some ps → PyData.showableAll ps = true ∧ PyData.leavesShortAll 2000 ps = true ∧ PyData.hasDictAll ps = false
  | [], _, _, e => by rw [toPyL] at e; cases e; exact ⟨rfl, rfl, rfl⟩
  | d :: ds, _, h, e => by
    rw [shDL, Bool.and_eq_true] at h
    rw [toPyL] at e
    cases q1 : toPy d with
    | none => rw [q1] at e; cases e
    | some p =>
      cases q2 : toPyL ds with
      | none => rw [q1, q2] at e; cases e
      | some ps =>
        rw [q1, q2] at e; cases e
        obtain ⟨a1, a2, a3⟩ := sh_py (d := d) h.1 q1
        obtain ⟨b1, b2, b3⟩ := shL_py (ds := ds) h.2 q2
        refine ⟨?_, ?_, ?_⟩
        · rw [PyData.showableAll, a1, b1]; rfl
        · rw [PyData.leavesShortAll, a2, b2]; rfl
        · rw [PyData.hasDictAll, a3, b3]; rfl
end
def repOk (d : D) (p : PyData) : Bool := shD d && decide (p.bulk ≤ 8000) && decide (p.depth ≤ 55)
def dRepr : List D → Option PV
  | [d] => match toPy d with
    | some p => if repOk d p then some (.fro (.rep d)) else none
    | none => none
  | _ => none
def rRepr (K : PySem.W.Frag) : List V → Hp → VK → Prop := fun vs H Q => ∃ v p, vs = [v] ∧ Dp K H v p ∧ p.showable = true ∧ p.hasDict = false ∧ p.depth ≤ 55 ∧ p.shown.length ≤ sizeLine ∧ Q (.str p.shown) H
section
variable {X : Cx}
theorem call_reprD (hG : X.A.guards = some []) (hu : X.A.units + 64 < cLine) : CallR X (.builtin "repr") (rRepr X.K) := by
  intro pins s σ H xs us Q I r h
  obtain ⟨v, p, rfl, hd, h1, h2, h3, h4, q⟩ := h
  cases r with
  | cons r rr =>
    cases rr
    obtain ⟨as, rd⟩ := Dp.reads I p v _ hd r
    cases hd with
    | non =>
      cases (show _ = Value.none from r)
      exact PySem.P.repr_of_none ⟨.str _, H, I.tok _, ⟨_, rfl⟩, q⟩
    | bl b =>
      cases (show _ = Value.bool b from r)
      refine PySem.P.repr_of_bool ⟨.str _, H, I.tok _, ⟨_, rfl⟩, ?_⟩
      cases b <;> exact q
    | int i =>
      obtain ⟨t, rfl⟩ := r
      rw [PyData.showable] at h1
      exact PySem.P.repr_of_int (of_decide_eq_true h1) ⟨.str _, H, I.tok _, ⟨_, rfl⟩, q⟩
    | str x =>
      obtain ⟨t, rfl⟩ := r
      exact PySem.P.repr_of_str ⟨.str _, H, I.tok _, ⟨_, rfl⟩, q⟩ h4
    | lst hs ha =>
      cases r
      exact repr_of_reads' rd h1 (fun e => by rw [h2] at e; cases e) hG (by omega) (fun _ _ e => e) (fun h' u tk hk => ⟨.str _, H, I.kept hk, ⟨_, rfl⟩, q⟩) h4
    | tup hs ha =>
      cases r
      exact repr_of_reads' rd h1 (fun e => by rw [h2] at e; cases e) hG (by omega) (fun _ _ e => e) (fun h' u tk hk => ⟨.str _, H, I.kept hk, ⟨_, rfl⟩, q⟩) h4
theorem o_repr : PureN X.K (rRepr X.K) dRepr := by
  intro F as H vs ds Q l h w
  match ds, h, w with
  | [d], h, w =>
    obtain ⟨v, rfl, hv⟩ := h.one
    have w : Wants X.K F as H Q (match toPy d with
      | some p => if repOk d p then some (.fro (.rep d)) else none
      | none => none) := w
    cases e : toPy d with
    | none => rw [e] at w; exact w.elim
    | some p =>
      rw [e] at w
      obtain ⟨g, w⟩ := wif w
      unfold repOk at g
      simp only [Bool.and_eq_true, decide_eq_true_eq] at g
      obtain ⟨a1, a2, a3⟩ := sh_py g.1.1 e
      refine ⟨v, p, rfl, hv.dp l e, a1, a3, g.2, ?_, w _ (.rep e)⟩
      have := PyData.shown_le_bulk 2000 (by decide) p a2
      have b := g.1.2
      refine Nat.le_trans this ?_
      rw [sizeLine_eq]
      omega

/-! list.count of ints -/
def cntP : D → D → Option PV
  | .lst xs, .int k => (intsD xs).map fun ns => .fro (.int ((ns.count k : Nat) : Int))
  | _, _ => none
def chkL (d : D) : M Unit := fun e s => match dr s d with
  | .lst _ => .ok () e s
  | _ => .bad
def mCnt (a b : M D) : M PR := bnd a fun x => bnd (chkL x) fun _ => bnd b (pv2 cntP x)
theorem tP_cnt {c : Cc} {σ : L2.St} {H : Hp} {a b : M D} {Q : VK} (h : tP c (mCnt a b) σ H Q) : tBM c.K "list" (rCntI c.K) (tB c a) (tCons (tB c b) tNil) σ H Q := by
  obtain ⟨N, F, as, env, st, r, p⟩ := h
  refine ⟨N, F, as, env, st, r, (Post.bind p).mono fun x e s F1 as1 H1 r1 _ _ _ q1 v hv => ?_⟩
  have hx := dr_rep r1 hv
  have hb : ∃ xs, dr s x = .lst xs ∧ Post c N F1 as1 σ H1 (bnd b (pv2 cntP x) e s) fun d env' _ F' as' H' => ∀ v, RepP c.K N F' as' env' σ H' v d → Q v H' := by
    unfold bnd chkL at q1
    split at q1
    · rename_i a e' s' z
      split at z
      · cases z
        exact ⟨_, by assumption, q1⟩
      · cases z
    · rename_i z
      split at z <;> cases z
    · exact q1.elim
  obtain ⟨xs, ex, q1⟩ := hb
  have hx2 := hx
  rw [ex] at hx2
  obtain ⟨p0, vs0, rfl, g1, g2⟩ := hx2.lst r1.sub
  refine ⟨tyL g1, N, F1, as1, e, s, r1, (Post.bind q1).mono fun y e s F2 as2 H2 r2 l2 p2 k2 q2 u hu => ?_⟩
  have w := wants_of (c := c) r2 q2
  have hx3 := dr_rep r2 (hv.mono l2 p2 k2)
  have hu3 := dr_rep r2 hu
  unfold cntP at w
  split at w
  · rename_i ys k e1 e2
    obtain ⟨ns, e3, w⟩ := wmap w
    rw [e1] at hx3
    rw [e2] at hu3
    obtain ⟨p1, vs1, e4, g3, g4⟩ := hx3.lst r2.sub
    cases e4
    have e5 := ints_rep g4 e3
    subst e5
    refine ⟨p0, ns, k, rfl, ?_, .inl (.inl g3), w _ (.int _)⟩
    rw [hu3.int]
  · exact w.elim
end
end PD
/-! PD, part 15: further rules -/
namespace PD
open PySem PySem.Spec PyProof.Rows L2

/-! dict(pairs) -/
def putD (kvs : List (Key × D)) (k : Key) (v : D) : List (Key × D) :=
  if (kvs.any fun kv => decide (kv.1 = k)) = true then kvs.map (fun kv => if kv.1 = k then (kv.1, v) else kv) else kvs ++ [(k, v)]
def mergeD (kvs more : List (Key × D)) : List (Key × D) := more.foldl (fun acc kv => putD acc kv.1 kv.2) kvs
inductive RepKV (K : PySem.W.Frag) (F : Hp) (as : List Addr) : List (Key × V) → List (Key × D) → Prop
  | nil : RepKV K F as [] []
  | cons {k : Key} {v : V} {d : D} {vs : List (Key × V)} {ds : List (Key × D)} : Rep K F as v d → RepKV K F as vs ds → RepKV K F as ((k, v) :: vs) ((k, d) :: ds)
section
variable {K : PySem.W.Frag} {F : Hp} {as : List Addr} {H : Hp}
theorem RepKV.any (k : Key) : ∀ {vs : List (Key × V)} {ds : List (Key × D)}, RepKV K F as vs ds → (vs.any fun kv => decide (kv.1 = k)) = ds.any fun kv => decide (kv.1 = k)
  | _, _, .nil => rfl
  | _, _, .cons _ t => by rw [List.any_cons, List.any_cons, t.any k]
theorem RepKV.app : ∀ {vs ws : List (Key × V)} {ds es : List (Key × D)}, RepKV K F as vs ds → RepKV K F as ws es → RepKV K F as (vs ++ ws) (ds ++ es)
  | _, _, _, _, .nil, h => h
  | _, _, _, _, .cons r t, h => .cons r (t.app h)
theorem RepKV.map {k : Key} {v : V} {d : D} (r : Rep K F as v d) : ∀ {vs : List (Key × V)} {ds : List (Key × D)}, RepKV K F as vs ds → RepKV K F as (vs.map fun kv => if kv.1 = k then (kv.1, v) else kv) (ds.map fun kv => if kv.1 = k then (kv.1, d) else kv)
  | _, _, .nil => .nil
  | _, _, .cons (k := k') q t => by
    rw [List.map_cons, List.map_cons]
    by_cases e : k' = k
    · rw [if_pos e, if_pos e]; exact .cons r (t.map r)
    · rw [if_neg e, if_neg e]; exact .cons q (t.map r)
theorem RepKV.put {vs : List (Key × V)} {ds : List (Key × D)} {k : Key} {v : V} {d : D} (h : RepKV K F as vs ds) (r : Rep K F as v d) : RepKV K F as (putK vs k v) (putD ds k d) := by
  unfold putK putD
  rw [h.any k]
  split
  · exact h.map r
  · exact h.app (.cons r .nil)
theorem RepKV.merge : ∀ {ws : List (Key × V)} {es : List (Key × D)} {vs : List (Key × V)} {ds : List (Key × D)}, RepKV K F as ws es → RepKV K F as vs ds → RepKV K F as (mergeK vs ws) (mergeD ds es)
  | _, _, _, _, .nil, h => h
  | _, _, vs, ds, .cons (k := k) (v := v) (d := d) (vs := ws) (ds := es) r t, h => RepKV.merge (vs := putK vs k v) (ds := putD ds k d) t (h.put r)
theorem RepKV.repO : ∀ {vs : List (Key × V)} {ds : List (Key × D)}, RepKV K F as vs ds → vs.map (·.1) = ds.map (·.1) ∧ RepL K F as (vs.map (·.2)) (ds.map (·.2))
  | _, _, .nil => ⟨rfl, .nil⟩
  | _, _, .cons r t => ⟨congrArg (_ :: ·) t.repO.1, .cons r t.repO.2⟩
end
def pairsD : List D → Option (List (Key × D))
  | [] => some []
  | .tup [k, v] :: r => match keyOf k, pairsD r with
    | some k, some ps => some ((k, v) :: ps)
    | _, _ => none
  | _ :: _ => none
def dDict : List D → Option PV
  | [.lst ps] => (pairsD ps).map fun kvs => .new (.dic ((mergeD [] kvs).map (·.1)) ((mergeD [] kvs).map (·.2)))
  | _ => none
def rDictP (K : PySem.W.Frag) : List V → Hp → VK → Prop := fun xs H Q => ∃ (a : Addr) (ps : List Addr) (kvs : List (Key × V)), xs = [.ref a] ∧ SqL K H a (ps.map V.ref) ∧ Paired (fun p kv => SqT K H p [kV kv.1, kv.2]) ps kvs ∧ ∀ p, H p = none → Q (.ref p) (upd H p (.dK (mergeK [] kvs)))
theorem pairs_rep {K : PySem.W.Frag} {F : Hp} {as : List Addr} {H : Hp} (l : Le F H) : ∀ {ds : List D} {vs : List V} {kvs : List (Key × D)}, RepL K F as vs ds → pairsD ds = some kvs →
    ∃ (ps : List Addr) (kws : List (Key × V)), vs = ps.map V.ref ∧ Paired (fun p kv => SqT K H p [kV kv.1, kv.2]) ps kws ∧ RepKV K F as kws kvs
  | [], _, _, h, e => by cases h; cases e; exact ⟨[], [], rfl, .nil, .nil⟩
  | .tup [k, v] :: r, _, _, h, e => by
    rw [pairsD] at e
    cases q1 : keyOf k with
    | none => rw [q1] at e; cases e
    | some k' =>
      cases q2 : pairsD r with
      | none => rw [q1, q2] at e; cases e
      | some kvs =>
        rw [q1, q2] at e
        cases e
        cases h with
        | cons h1 h2 =>
          obtain ⟨ps, kws, rfl, g1, g2⟩ := pairs_rep l (ds := r) h2 q2
          cases h1 with
          | @tup a us _ h3 h4 =>
            obtain ⟨x, y, rfl, h5, h6⟩ := h4.two
            have ek := key_rep (H := H) (.inl h5) q1
            subst ek
            exact ⟨a :: ps, (k', y) :: kws, rfl, .cons (l.seqT h3) g1, .cons h6 g2⟩
  | .tup [] :: r, _, _, h, e => by cases e
  | .tup [_] :: r, _, _, h, e => by cases e
  | .tup (_ :: _ :: _ :: _) :: r, _, _, h, e => by cases e
  | .non :: r, _, _, h, e => by cases e
  | .bl _ :: r, _, _, h, e => by cases e
  | .int _ :: r, _, _, h, e => by cases e
  | .str _ :: r, _, _, h, e => by cases e
  | .lst _ :: r, _, _, h, e => by cases e
  | .dic _ _ :: r, _, _, h, e => by cases e
  | .ref _ :: r, _, _, h, e => by cases e
  | .rep _ :: r, _, _, h, e => by cases e
  | .fzl _ :: r, _, _, h, e => by cases e
section
variable {X : Cx}
theorem o_dict : PureN X.K (rDictP X.K) dDict := by
  intro F as H vs ds Q l h w
  match ds, h, w with
  | [.lst ps], h, w =>
    obtain ⟨v, rfl, hv⟩ := h.one
    obtain ⟨kvs, e, w⟩ := wmap w
    obtain ⟨p, us, rfl, h1, h2⟩ := hv.lst l
    obtain ⟨qs, kws, rfl, g1, g2⟩ := pairs_rep l h2 e
    refine ⟨p, qs, kws, rfl, .inl (.inl h1), g1, fun z hz => w z _ hz ?_⟩
    obtain ⟨k1, k2⟩ := (RepKV.merge g2 .nil).repO
    rw [← k1]
    exact .dic k2
end

/-! list(range(..)), list(reversed(..)) -/
def lr1 : D → M PR
  | .int n => if rngB n && decide (n ≤ 10000000) then ret (.new (.lst (rangeD 0 n.toNat))) else noRes
  | _ => noRes
def mLR1 (a : M D) : M PR := bnd a lr1
def lr2 : D → D → M PR
  | .int i, .int n => if rngB i && rngB n && decide (n - i ≤ 10000000) then ret (.new (.lst (rangeD i (n - i).toNat))) else noRes
  | _, _ => noRes
def mLR2 (a b : M D) : M PR := bnd a fun x => bnd b (lr2 x)
def lrv : D → M PR
  | .lst xs => ret (.new (.lst xs.reverse))
  | _ => noRes
def mLRv (a : M D) : M PR := bnd a lrv
theorem range_rep {K : PySem.W.Frag} {F : Hp} {as : List Addr} (lo : Int) : ∀ (l : List Nat), RepL K F as (l.map fun (i : Nat) => V.int (lo + (i : Int))) (l.map fun (i : Nat) => D.int (lo + (i : Int)))
  | [] => .nil
  | _ :: r => .cons (.int _) (range_rep lo r)
section
variable {c : Cc} {σ : L2.St} {H : Hp} {Q : VK}
theorem new_lst {N : Addr → Prop} {F : Hp} {as : List Addr} {env : En} {st : Sto} {vs : List V} {xs : List D} (r : Rel c.K N F as env st σ H) (h : RepL c.K F as vs xs) (q : Post c N F as σ H (ret (PR.new (.lst xs)) env st) fun d env' _ F' as' H' => ∀ v, RepP c.K N F' as' env' σ H' v d → Q v H') :
    ∀ z, H z = none → Q (.ref z) (upd H z (.lst vs)) := fun z hz => by
  obtain ⟨h1, h2, h3, h4⟩ := r.fresh hz
  exact q F as _ (r.alloc hz) (Le.refl _) (Pre.refl _) (Kp.put hz) (.ref z) ⟨z, _, rfl, upd_same, .lst h, h1, h2, h3, h4⟩
theorem tP_lr1 {a : M D} (h : tP c (mLR1 a) σ H Q) : tLstRg (tRg1 (tE c a)) σ H Q := by
  obtain ⟨N, F, as, env, st, r, p⟩ := h
  refine ⟨N, F, as, env, st, r, (Post.bind p).mono fun d e s F1 as1 H1 r1 _ _ _ q v hv => ?_⟩
  match d, hv, q with
  | .int n, hv, q =>
    cases hv
    obtain ⟨hb, q⟩ := post_if (m := ret (PR.new (.lst (rangeD 0 n.toNat)))) q
    rw [Bool.and_eq_true, decide_eq_true_eq] at hb
    have b := rng_of hb.1
    have b2 := hb.2
    refine ⟨n, rfl, ⟨by omega, by omega, b.1, b.2, by omega⟩, ?_⟩
    have e : rgV 0 n = (List.range n.toNat).map fun (i : Nat) => V.int (0 + (i : Int)) := by unfold rgV; rw [Int.sub_zero]
    rw [e]
    exact new_lst r1 (range_rep 0 _) q
theorem tP_lr2 {a b : M D} (h : tP c (mLR2 a b) σ H Q) : tLstRg (tRg2 (tE c a) (tE c b)) σ H Q := by
  obtain ⟨N, F, as, env, st, r, p⟩ := h
  refine ⟨N, F, as, env, st, r, (Post.bind p).mono fun d e s F1 as1 H1 r1 _ _ _ q v hv => ?_⟩
  refine ⟨N, F1, as1, e, s, r1, (Post.bind q).mono fun d2 e s F2 as2 H2 r2 l2 p2 k2 q u hu => ?_⟩
  match d, d2, hv, hu, q with
  | .int i, .int n, hv, hu, q =>
    cases hv
    cases hu
    obtain ⟨hb, q⟩ := post_if (m := ret (PR.new (.lst (rangeD i (n - i).toNat)))) q
    rw [Bool.and_eq_true, Bool.and_eq_true, decide_eq_true_eq] at hb
    have b := rng_of hb.1.1
    have b2 := rng_of hb.1.2
    have b3 := hb.2
    exact ⟨i, n, rfl, rfl, ⟨b.1, b.2, b2.1, b2.2, by omega⟩, new_lst r2 (range_rep i _) q⟩
theorem tP_lrv {a : M D} (h : tP c (mLRv a) σ H Q) : tLstRev c.K (tE c a) σ H Q := by
  obtain ⟨N, F, as, env, st, r, p⟩ := h
  refine ⟨N, F, as, env, st, r, (Post.bind p).mono fun d e s F1 as1 H1 r1 _ _ _ q v hv => ?_⟩
  match d, hv, q with
  | .lst xs, hv, q =>
    cases hv with
    | @lst a vs _ h1 h2 => exact ⟨a, vs, rfl, .inl (.inl (r1.sub _ _ h1)), new_lst r1 h2.reverse q⟩
end

/-! the law's bag: [list(reversed(list(cells))), 0, mixed], two cells of the store -/
def bagM (a b : D) : M D := fun e s => match a with
  | .lst xs => if xs.all scal1 && scal1 b && decide (xs.length ≤ lim) then .ok (.ref s.length) e (s ++ [[.ref (s.length + 1), .int 0, b], xs.reverse]) else .bad
  | _ => .bad
def isL : D → M Unit
  | .lst _ => ret ()
  | _ => noRes
def eBag (a b : M D) : M D := bnd a fun x => bnd (isL x) fun _ => bnd b (bagM x)
theorem scalL {K : PySem.W.Frag} {F : Hp} {as : List Addr} : ∀ {vs : List V} {ds : List D}, RepL K F as vs ds → ds.all scal1 = true → RepL K (fun _ => none) as vs ds
  | _, _, .nil, _ => .nil
  | _, _, .cons h t, e => by
    rw [List.all_cons, Bool.and_eq_true] at e
    exact .cons (scal_rep h e.1) (scalL t e.2)
theorem Pre.app (as bs : List Addr) : Pre as (as ++ bs) := fun n a h => by rw [List.getElem?_append_left (lt_of_get h)]; exact h
theorem tE_bag {c : Cc} {σ : L2.St} {H : Hp} {Q : VK} {a b : M D} (h : tE c (eBag a b) σ H Q) : tLst (tCons (tLstRev c.K (tE c a)) (tCons (tC (.int 0)) (tCons (tE c b) tNil))) σ H Q := by
  obtain ⟨N, F, as, env, st, r, p⟩ := h
  refine ⟨N, F, as, env, st, r, (Post.bind p).mono fun d e s F1 as1 H1 r1 _ _ _ q v hv => ?_⟩
  match d, hv, q with
  | .lst xs, hv, q =>
  have q : Post c N F1 as1 σ H1 (bnd b (bagM (.lst xs)) e s) fun d _ _ F' as' H' => ∀ v, Rep c.K F' as' v d → Q v H' := q
  cases hv with
  | @lst a0 vs _ h1 h2 =>
  refine ⟨a0, vs, rfl, .inl (.inl (r1.sub _ _ h1)), fun p1 hp1 => ?_⟩
  obtain ⟨f1, f2, f3, f4⟩ := r1.fresh hp1
  have rn := r1.addN (ho := .lst vs.reverse) hp1
  refine ⟨fun a => N a ∨ a = p1, F1, as1, e, s, rn, ?_⟩
  unfold bnd at q
  cases z : b e s with
  | bad => rw [z] at q; exact q.elim
  | exc x e2 s2 =>
    rw [z] at q
    exact ((q : Post c N F1 as1 σ H1 (.exc x e2 s2) _).rebase (Le.refl _) (Pre.refl _) (Kp.put hp1)).moreN fun _ n => .inl n
  | ok d2 e2 s2 =>
  rw [z] at q
  have q : Post c N F1 as1 σ H1 (bagM (.lst xs) d2 e2 s2) fun d _ _ F' as' H' => ∀ v, Rep c.K F' as' v d → Q v H' := q
  intro F2 as2 H3 r2 l2 pr2 k2 u hu
  refine ⟨by show 3 ≤ sizeLine; decide, fun p2 hp2 => ?_⟩
  have q : Post c N F1 as1 σ H1 (if xs.all scal1 && scal1 d2 && decide (xs.length ≤ lim) then Res.ok (D.ref s2.length) e2 (s2 ++ [[.ref (s2.length + 1), .int 0, d2], xs.reverse]) else .bad) fun d _ _ F' as' H' => ∀ v, Rep c.K F' as' v d → Q v H' := q
  by_cases hb : (xs.all scal1 && scal1 d2 && decide (xs.length ≤ lim)) = true
  case neg => rw [if_neg hb] at q; exact q.elim
  rw [if_pos hb] at q
  rw [Bool.and_eq_true, Bool.and_eq_true, decide_eq_true_eq] at hb
  have hH1 : H3 p1 = some (.lst vs.reverse) := k2.keep p1 _ upd_same f2
  obtain ⟨g1, g2, g3, g4⟩ := r2.fresh hp2
  have o1 := r2.out p1 (.inr rfl)
  have ne21 : p2 ≠ p1 := fun w => by rw [w, hH1] at hp2; cases hp2
  have up : ∀ a o, H3 a = some o → (upd H3 p2 (.lst [.ref p1, .int 0, u])) a = some o := fun a o w => Le.put hp2 a o w
  have pre : Pre as2 (as2 ++ [p2, p1]) := Pre.app _ _
  have ln : as2.length = s2.length := r2.slen
  refine q F2 (as2 ++ [p2, p1]) _ ⟨fun a o w => up a o (r2.sub a o w), r2.len, fun i d w => ?_, fun i o w => ?_, ?_, fun n ys w => ?_, ?_, fun a w => ?_, fun a w => ?_⟩ l2 (pr2.trans pre) ⟨fun a o w nw => ?_, fun a w nw => ?_⟩ (.ref p2) (.ref ?_)
  · obtain ⟨v, w1, w2⟩ := r2.val i d w
    exact ⟨v, w1, w2.mono (Le.refl _) pre⟩
  · obtain ⟨p, ho, w1, w2, w3, w4, w5, w6, w7⟩ := r2.own i o w
    refine ⟨p, ho, w1, up _ _ w2, w3.mono (Le.refl _) pre, w4, fun m => ?_, fun n => w6 (.inl n), w7⟩
    rcases List.mem_append.mp m with m | m
    · exact w5 m
    · rcases List.mem_cons.mp m with m | m
      · rw [m, hp2] at w2; cases w2
      · exact w6 (.inr (List.mem_singleton.mp m))
  · rw [List.length_append, List.length_append, ln]; rfl
  · by_cases hn : n < s2.length
    · rw [List.getElem?_append_left hn] at w
      obtain ⟨a, us, w1, w2, w3⟩ := r2.sto n ys w
      exact ⟨a, us, pre _ _ w1, up _ _ w2, w3.mono (Le.refl _) pre⟩
    · rw [List.getElem?_append_right (by omega)] at w
      have hc : n = s2.length ∨ n = s2.length + 1 := by
        have := lt_of_get w
        simp at this
        omega
      rcases hc with rfl | rfl
      · rw [Nat.sub_self] at w
        cases w
        refine ⟨p2, _, by rw [← ln, List.getElem?_append_right (Nat.le_refl _), Nat.sub_self]; rfl, upd_same, .cons (.ref ?_) (.cons (.int _) (.cons ((scal_rep hu hb.1.2).mono (Le.refl _) pre) .nil))⟩
        rw [← ln, List.getElem?_append_right (by omega), Nat.add_sub_cancel_left]
        rfl
      · rw [Nat.add_sub_cancel_left] at w
        cases w
        refine ⟨p1, _, ?_, up _ _ hH1, RepL.mono (Le.refl _) (pr2.trans pre) (scalL h2 hb.1.1).reverse⟩
        rw [← ln, List.getElem?_append_right (by omega), Nat.add_sub_cancel_left]
        rfl
  · rw [List.nodup_append]
    refine ⟨r2.snd, by simp [ne21], fun a ha b hb' => ?_⟩
    rcases List.mem_cons.mp hb' with hb' | hb'
    · rw [hb']; exact fun w => g2 (w ▸ ha)
    · rw [List.mem_singleton.mp hb']; exact fun w => o1.2.1 (w ▸ ha)
  · rcases List.mem_append.mp w with w | w
    · exact r2.sfr a w
    · rcases List.mem_cons.mp w with w | w
      · rw [w]; exact g1
      · rw [List.mem_singleton.mp w]; exact o1.1
  · obtain ⟨w1, w2, o, w3⟩ := r2.out a (.inl w)
    refine ⟨w1, fun m => ?_, o, up _ _ w3⟩
    rcases List.mem_append.mp m with m | m
    · exact w2 m
    · rcases List.mem_cons.mp m with m | m
      · rw [m, hp2] at w3; cases w3
      · rw [List.mem_singleton.mp m] at w; exact f3 w
  · exact up _ _ (k2.keep a o (Le.put hp1 a o w) nw)
  · rcases List.mem_append.mp w with w | w
    · have := k2.new a w nw
      exact (Le.put (o := .lst vs.reverse) hp1).none this
    · rcases List.mem_cons.mp w with w | w
      · subst w
        cases y : H1 a with
        | none => rfl
        | some o =>
          rw [k2.keep a o (Le.put hp1 a o y) nw] at hp2
          cases hp2
      · rw [List.mem_singleton.mp w]; exact hp1
  · rw [← ln, List.getElem?_append_right (Nat.le_refl _), Nat.sub_self]; rfl
end PD
/-! PD, part 16: tables of operations; contexts; further expression rules -/
namespace PD
open PySem PySem.Spec PyProof.Rows L2

structure Gi where
  name : Str
  ps : List Str
  fn : Fn
  kw : List (List Str × List Nat)
structure Ct where
  N : List Str
  sc : Scope
  fs : Scope
  G : List Gi
  GC : List (Str × D)
  B : List Str

/-- a def of the text, as a function of data: promised for calls -/
def Ok (P : Program) (w : World) (K : PySem.W.Frag) (mg : Str → Option Value) (base : Heap) (CX : CXT) (XR : Hp → List Addr → Hp → Ex → Value → Option Addr → Prop) (k : Nat) (g : Gi) : Prop :=
  ∃ f fd, mg g.name = some (.ref f) ∧ PySem.W.keepIn K (.ref f) = true ∧ FnG P w K mg base CX k f fd g.ps (spF K XR g.ps.length g.fn) ∧ Binds K fd g.ps [] ∧
    ∀ q ∈ g.kw, ∀ (s : Shared) (ws : List Value), K.In s.heap → ws.length = q.1.length → BindsTo s fd ⟨[], q.1.zip ws⟩ (g.ps.zip (pick q.2 ws))
def stB (sc fs : Scope) (x : Str) : Bool := match sc.names.lookup x with
  | some .local => true
  | some .cell => fs.names.lookup x == some .cell
  | _ => false
structure Good (CX : CXT) (X : Cx) (c : Cc) (C : Ct) : Prop where
  hK : c.K = X.K
  hN : X.N = C.N
  nd : X.N.Nodup
  sc : X.env.scope = C.sc
  kd : X.env.scope.kind = .function
  calm : X.calm = true
  hG : X.A.guards = some []
  un : X.A.units + 80 < cLine
  fnok : ∀ x, stB C.sc C.fs x = true → Loc X.env.scope x ∧ (X.fn x = true ∨ X.env.scope.names.lookup x = some .local)
  pass : PassesOwn (model X.prog X.w) X.A X.env X.xe
  cx0 : ∀ outer H s e s', CX outer H s (fun _ _ _ => False) e s' → False
  pa : ∀ σ, PassAt CX X σ (EW c σ)
  blt : ∀ b ∈ C.B, X.mg b = none
  con : ∀ y ∈ C.GC, ∃ u v, X.mg y.1 = some u ∧ RelV v u ∧ ∀ F as, Rep c.K F as v y.2
  fun_ : ∀ g ∈ C.G, ∃ k, Ok X.prog X.w X.K X.mg X.base CX c.XR k g ∧ Room k X.A

/-! names -/
def ixOf (x : Str) : List Str → Option Nat
  | [] => none
  | y :: ys => if x = y then some 0 else (ixOf x ys).map (· + 1)
theorem ixOf_get {x : Str} : ∀ {l : List Str} {i : Nat}, ixOf x l = some i → l[i]? = some x
  | [], _, h => by cases h
  | y :: ys, i, h => by
    unfold ixOf at h
    by_cases e : x = y
    · rw [if_pos e] at h
      cases h
      rw [e]
      rfl
    · rw [if_neg e] at h
      cases q : ixOf x ys with
      | none => rw [q] at h; cases h
      | some j =>
        rw [q] at h
        cases h
        show (y :: ys)[j + 1]? = some x
        rw [List.getElem?_cons_succ]
        exact ixOf_get q
def nameOk (x : Str) : Bool := !(x == ("__debug__" : Str)) && !(x == ("__classdict__" : Str)) && decide (x ≠ ("__name__" : Str))
def visB (sc : Scope) (x : Str) : Bool := match sc.names.lookup x with
  | some .local => true
  | some .cell => true
  | some .free => true
  | _ => false
def glB (sc : Scope) (x : Str) : Bool := match sc.names.lookup x with
  | some .globalImplicit => true
  | _ => false
theorem vis_ok {sc : Scope} {x : Str} (h : visB sc x = true) : Vis sc x := by
  unfold visB at h
  split at h
  · exact .inl (by assumption)
  · exact .inr (.inl (by assumption))
  · exact .inr (.inr (by assumption))
  · cases h
def slot (C : Ct) (x : Str) : Option Nat := if nameOk x && visB C.sc x then ixOf x C.N else none
def isGl (C : Ct) (x : Str) : Bool := nameOk x && glB C.sc x
section
variable {CX : CXT} {X : Cx} {c : Cc} {C : Ct} {x : Str}
theorem name_dbg (h : nameOk x = true) : (x == ("__debug__" : Str)) = false ∧ (x == ("__classdict__" : Str)) = false ∧ x ≠ "__name__" := by
  unfold nameOk at h
  simp only [Bool.and_eq_true, Bool.not_eq_true', decide_eq_true_eq] at h
  exact ⟨h.1.1, h.1.2, h.2⟩
theorem Good.slot (g : Good CX X c C) {i : Nat} (h : slot C x = some i) : X.N[i]? = some x ∧ Vis X.env.scope x ∧ (x == ("__debug__" : Str)) = false ∧ (x == ("__classdict__" : Str)) = false := by
  unfold PD.slot at h
  by_cases e : (nameOk x && visB C.sc x) = true
  · rw [if_pos e] at h
    rw [Bool.and_eq_true] at e
    obtain ⟨h1, h2, _⟩ := name_dbg e.1
    exact ⟨by rw [g.hN]; exact ixOf_get h, by rw [g.sc]; exact vis_ok e.2, h1, h2⟩
  · rw [if_neg e] at h; cases h
theorem Good.gl (g : Good CX X c C) (h : isGl C x = true) : Gl X x ∧ (x == ("__debug__" : Str)) = false ∧ x ≠ "__name__" := by
  unfold isGl at h
  rw [Bool.and_eq_true] at h
  obtain ⟨h1, _, h3⟩ := name_dbg h.1
  refine ⟨?_, h1, h3⟩
  show X.env.scope.names.lookup x = _
  rw [g.sc]
  have h2 := h.2
  unfold glB at h2
  split at h2
  · assumption
  · cases h2

/-! tables -/
def binF : Operator → Option (D → D → Option PV)
  | .Add => some dAdd
  | .Sub => some dSub
  | .Mult => some dMul
  | .FloorDiv => some dDiv
  | .Mod => some dMod
  | .Pow => some dPow
  | _ => none
theorem bin_ok (g : Good CX X c C) {op : Operator} {f : D → D → Option PV} (h : binF op = some f) : ∃ r, OpR X (binaryOp op) r ∧ Pure2 c.K r f := by
  rw [g.hK]
  cases op <;> first | (cases h; done) | skip
  · cases h; exact ⟨_, op_addA, o_add⟩
  · cases h; exact ⟨_, op_sub, o_sub⟩
  · cases h; exact ⟨_, op_mulA, o_mul⟩
  · cases h; exact ⟨_, op_modN, o_mod⟩
  · cases h; exact ⟨_, op_pow, o_pow⟩
  · cases h; exact ⟨_, OpR.or op_fdivW op_fdivN, o_div⟩
def cmpF : CmpOp → Option (D → D → Option PV)
  | .Eq => some dEq
  | .NotEq => some dNe
  | .Lt => some dLt
  | .LtE => some dLe
  | .Gt => some dGt
  | .GtE => some dGe
  | .Is => some dIs
  | .IsNot => some dIsNot
  | .In => some dIn
  | .NotIn => some dNotIn
theorem cmp_ok (g : Good CX X c C) {op : CmpOp} {f : D → D → Option PV} (h : cmpF op = some f) : ∃ r, OpR X (compareOp op) r ∧ Pure2 c.K r f := by
  have u := g.un
  rw [g.hK]
  cases op <;> cases h
  · exact ⟨_, OpR.or op_eq (op_eqD (by omega)), o_eq⟩
  · exact ⟨_, OpR.or op_ne (op_neD (by omega)), o_ne⟩
  · exact ⟨_, op_lt, o_lt⟩
  · exact ⟨_, op_le, o_le⟩
  · exact ⟨_, op_gt, o_gt⟩
  · exact ⟨_, op_ge, o_ge⟩
  · exact ⟨_, op_is2, o_is⟩
  · exact ⟨_, op_isnot2, o_isnot⟩
  · exact ⟨_, op_inAll (by omega), o_in⟩
  · exact ⟨_, op_notInAll (by omega), o_notIn⟩
def noSet : Expr → Bool
  | .Set _ _ _ => false
  | _ => true
theorem no_marks {op : CmpOp} {b : Expr} (h : noSet b = true) : behindInMarks op b = false := by
  cases b <;> first | rfl | cases h
theorem no_lastm {o1 o2 : CmpOp} {a b : Expr} (h : noSet b = true) : lastMarks [o1, o2] [a, b] = false := by
  show lastMarks [o2] [b] = false
  show behindInMarks o2 b = false
  exact no_marks h
/-- built-ins called with values -/
def biF (x : Str) : Option (List D → Option PV) :=
  if x = ("len" : Str) then some dLen else
  if x = ("abs" : Str) then some dAbs else
  if x = ("max" : Str) then some dMax else
  if x = ("min" : Str) then some dMin else
  if x = ("int" : Str) then some dInt else
  if x = ("sum" : Str) then some dSum else
  if x = ("any" : Str) then some dAny else
  if x = ("all" : Str) then some dAll else
  if x = ("list" : Str) then some dList else
  if x = ("tuple" : Str) then some dTuple else
  if x = ("dict" : Str) then some dDict else
  if x = ("repr" : Str) then some dRepr else none
theorem bi_ok (g : Good CX X c C) {f : List D → Option PV} (h : biF x = some f) : (∃ id r, bootBuiltins x = some (.builtin id) ∧ CallR X (.builtin id) r ∧ PureN c.K r f) ∨ ∃ id r, bootBuiltins x = some (.type id) ∧ CallR X (.type id) r ∧ PureN c.K r f := by
  have u := g.un
  rw [g.hK]
  unfold biF at h
  split at h
  · rename_i e; subst e; cases h; exact .inl ⟨_, _, boot_len, call_len, o_len⟩
  split at h
  · rename_i e; subst e; cases h; exact .inl ⟨_, _, by decide +kernel, call_abs, o_abs⟩
  split at h
  · rename_i e; subst e; cases h; exact .inl ⟨_, _, by decide +kernel, call_max2 g.calm, o_max⟩
  split at h
  · rename_i e; subst e; cases h; exact .inl ⟨_, _, by decide +kernel, call_min2 g.calm, o_min⟩
  split at h
  · rename_i e; subst e; cases h; exact .inr ⟨_, _, by decide +kernel, call_int1, o_int⟩
  split at h
  · rename_i e; subst e; cases h; exact .inl ⟨_, _, by decide +kernel, cr_sumB g.calm, o_sum⟩
  split at h
  · rename_i e; subst e; cases h; exact .inl ⟨_, _, by decide +kernel, cr_any g.calm, o_any⟩
  split at h
  · rename_i e; subst e; cases h; exact .inl ⟨_, _, by decide +kernel, cr_all g.calm, o_all⟩
  split at h
  · rename_i e; subst e; cases h; exact .inr ⟨_, _, boot_list, call_list_of, o_list⟩
  split at h
  · rename_i e; subst e; cases h; exact .inr ⟨_, _, by decide +kernel, call_tuple_of, o_tuple⟩
  split at h
  · rename_i e; subst e; cases h; exact .inr ⟨_, _, by decide +kernel, call_dictP g.calm, o_dict⟩
  split at h
  · rename_i e; subst e; cases h; exact .inl ⟨_, _, by decide +kernel, call_reprD g.hG (by omega), o_repr⟩
  · cases h
theorem Good.mgB (g : Good CX X c C) (h : C.B.contains x = true) : X.mg x = none := g.blt x (by simpa using h)
end

/-! more expressions -/
section
variable {X : Cx} {c : Cc} {pos apos cpos p p2 pos2 : Pos} {a b e o : Expr} {es : List Expr}
theorem t_if {t : Expr} {T A B : M Bool} (ht : PT X t (tT c T)) (ha : PT X a (tT c A)) (hb : PT X b (tT c B)) : PT X (.IfExp t a b pos) (tT c (mIf T A B)) := by
  refine ⟨fun pins s σ H Q I h => ?_⟩
  obtain ⟨N, F, as, env, st, r0, q⟩ := h
  have h1 : tT c T σ H fun k H1 => if k = true then tT c A σ H1 Q else tT c B σ H1 Q := ⟨N, F, as, env, st, r0, (Post.bind q).mono fun x e s F1 as1 H1 r1 _ _ _ q1 => by
    cases x with
    | true => rw [if_pos rfl] at q1 ⊢; exact ⟨N, F1, as1, e, s, r1, q1⟩
    | false => rw [if_neg Bool.false_ne_true] at q1 ⊢; exact ⟨N, F1, as1, e, s, r1, q1⟩⟩
  show wpAny _ _ (do if ← isTrue t X.env (eval t X.env) then isTrue a X.env (eval a X.env) else isTrue b X.env (eval b X.env)) _ _ s
  refine wpAny_bind (thn (ht.run pins s σ H _ I h1) fun k s1 ⟨H1, I1, q1⟩ => ?_)
  cases k with
  | true =>
    rw [if_pos rfl] at q1
    rw [if_pos rfl]
    exact ha.run pins s1 σ H1 Q I1 q1
  | false =>
    rw [if_neg Bool.false_ne_true] at q1
    rw [if_neg Bool.false_ne_true]
    exact hb.run pins s1 σ H1 Q I1 q1
theorem p_lr1 (hc : X.calm = true) (hg : Gl X "list") (hm : X.mg "list" = none) (hg2 : Gl X "range") (hm2 : X.mg "range" = none) {A : M D} (ha : PE X a (tE c A)) (hs : noStar a = true) :
    PE X (.Call (.Name "list" p) [.Call (.Name "range" p2) [a] [] pos2] [] pos) (tP c (mLR1 A)) := (pe_listRg hc hg hm (prg_1 hg2 hm2 ha (star_cons hs)) rfl).imp fun _ _ _ => tP_lr1
theorem p_lr2 (hc : X.calm = true) (hg : Gl X "list") (hm : X.mg "list" = none) (hg2 : Gl X "range") (hm2 : X.mg "range" = none) {A B : M D} (ha : PE X a (tE c A)) (hb : PE X b (tE c B)) (hs : noStar a = true) (hs2 : noStar b = true) :
    PE X (.Call (.Name "list" p) [.Call (.Name "range" p2) [a, b] [] pos2] [] pos) (tP c (mLR2 A B)) :=
  (pe_listRg hc hg hm (prg_2 hg2 hm2 ha hb (star_cons hs) (star_cons hs2) (stars_any (es := [b]) (by unfold noStars; rw [List.all_cons, hs2]; rfl))) rfl).imp fun _ _ _ => tP_lr2
theorem p_lrv (hK : c.K = X.K) (hc : X.calm = true) (hg : Gl X "list") (hm : X.mg "list" = none) (hg2 : Gl X "reversed") (hm2 : X.mg "reversed" = none) {A : M D} (ha : PE X a (tE c A)) (hs : noStar a = true) :
    PE X (.Call (.Name "list" p) [.Call (.Name "reversed" p2) [a] [] pos2] [] pos) (tP c (mLRv A)) := (pe_lstRev hc hg hm hg2 hm2 ha hs).imp fun _ _ _ h => hK ▸ tP_lrv h
theorem e_bag (hK : c.K = X.K) (hc : X.calm = true) (hg : Gl X "list") (hm : X.mg "list" = none) (hg2 : Gl X "reversed") (hm2 : X.mg "reversed" = none) {A B : M D} (ha : PE X a (tE c A)) (hb : PE X b (tE c B)) (hs : noStar a = true) (hs2 : noStar b = true) {k : Nat} {pk : Pos} :
    PE X (.List [.Call (.Name "list" p) [.Call (.Name "reversed" p2) [a] [] pos2] [] cpos, .Constant (.int 0) k pk, b] pos) (tE c (eBag A B)) := by
  refine (pe_lst (pa_cons (pe_lstRev hc hg hm hg2 hm2 ha hs) (pa_cons pe_int (pa_cons hb pa_nil (star_cons hs2)) rfl) rfl)).imp fun σ H Q h => ?_
  rw [← hK]
  exact tE_bag h
def baseOk2 : Expr → Bool
  | .Name _ _ => true
  | .Subscript _ _ _ => true
  | .Call (.Name x _) (_ :: _) _ _ => true
  | _ => false
theorem base_ok2 {name : Str} (h : baseOk2 o = true) : attributeBase o name X.env (eval o X.env) = eval o X.env := by
  unfold baseOk2 at h
  split at h
  · rfl
  · rfl
  · rfl
  · cases h
theorem p_cnt (hK : c.K = X.K) {A B : M D} (ho : PE X o (tB c A)) (ha : PE X a (tB c B)) (hb : baseOk2 o = true) (hs : noStar a = true) (hl : (apos.endLine == cpos.line) = true) : PE X (.Call (.Attribute o "count" apos) [a] [] cpos) (tP c (mCnt A B)) := by
  have hst : noStars [a] = true := by unfold noStars; rw [List.all_cons, hs]; rfl
  have hf : fewOk [a] = true := by unfold fewOk; rw [hst]; rfl
  have q := pe_bm (cpos := cpos) (apos := apos) PySem.F.plainAttrs_list PySem.F.slot_list_count PySem.F.type_list_count mt_lcount ho (pa_cons ha pa_nil (star_cons hs)) (base_ok2 hb) (few_ok hf) hl (star_cons hs) rfl
  exact q.imp fun σ H Q h => hK ▸ tP_cnt h
end
end PD
/-! PD, part 17: the rules under Good (what the printer uses) -/
namespace PD
open PySem PySem.Spec PyProof.Rows L2
section
variable {CX : CXT} {X : Cx} {c : Cc} {C : Ct} {x : Str} {pos p p2 pos2 apos cpos : Pos} {a b d e o : Expr} {es : List Expr}
theorem gE_var (g : Good CX X c C) {i : Nat} (h : slot C x = some i) : PE X (.Name x pos) (tE c (eVar i)) := by
  obtain ⟨h1, h2, h3, h4⟩ := g.slot h
  exact e_var h1 h2 h3 h4
theorem gB_var (g : Good CX X c C) {i : Nat} (h : slot C x = some i) : PE X (.Name x pos) (tB c (bVar i)) := by
  obtain ⟨h1, h2, h3, h4⟩ := g.slot h
  exact b_var h1 h2 h3 h4
theorem gE_con (g : Good CX X c C) {j : Nat} {v : D} (h : C.GC[j]? = some (x, v)) (hg : isGl C x = true) : PE X (.Name x pos) (tE c (ret v)) := by
  obtain ⟨h1, h2, _⟩ := g.gl hg
  obtain ⟨u, w, hm, r, hv⟩ := g.con _ (List.mem_of_getElem? h)
  exact e_glob h1 hm r hv h2
theorem gP_bin (g : Good CX X c C) {op : Operator} {f : D → D → Option PV} {A B : M D} (h : binF op = some f) (ha : PE X a (tB c A)) (hb : PE X b (tB c B)) : PE X (.BinOp a op b pos) (tP c (mOp2 f A B)) := by
  obtain ⟨r, h1, h2⟩ := bin_ok g h
  exact p_bin h1 h2 ha hb
theorem gP_cmp (g : Good CX X c C) {op : CmpOp} {f : D → D → Option PV} {A B : M D} (h : cmpF op = some f) (hn : noSet b = true) (ha : PE X a (tB c A)) (hb : PE X b (tB c B)) : PE X (.Compare a [op] [b] pos) (tP c (mOp2 f A B)) := by
  obtain ⟨r, h1, h2⟩ := cmp_ok g h
  exact p_cmp h1 h2 ha hb (no_marks hn)
theorem gT_cmp (g : Good CX X c C) {op : CmpOp} {f : D → D → Option PV} {A B : M D} (h : cmpF op = some f) (hn : noSet b = true) (ha : PE X a (tB c A)) (hb : PE X b (tB c B)) : PT X (.Compare a [op] [b] pos) (tT c (mBl (mOp2 f A B))) := by
  obtain ⟨r, h1, h2⟩ := cmp_ok g h
  exact t_cmp h1 h2 ha hb (no_marks hn)
theorem gP_chain (g : Good CX X c C) {op op' : CmpOp} {f f' : D → D → Option PV} {A B E : M D} (h : cmpF op = some f) (h' : cmpF op' = some f') (hn : noSet d = true) (ha : PE X a (tB c A)) (hb : PE X b (tB c B)) (hd : PE X d (tB c E)) : PE X (.Compare a [op, op'] [b, d] pos) (tP c (mChain f f' A B E)) := by
  obtain ⟨r, h1, h2⟩ := cmp_ok g h
  obtain ⟨r', h3, h4⟩ := cmp_ok g h'
  exact p_chain h1 h3 h2 h4 ha hb hd (no_lastm hn)
theorem gT_chain (g : Good CX X c C) {op op' : CmpOp} {f f' : D → D → Option PV} {A B E : M D} (h : cmpF op = some f) (h' : cmpF op' = some f') (hn : noSet d = true) (ha : PE X a (tB c A)) (hb : PE X b (tB c B)) (hd : PE X d (tB c E)) : PT X (.Compare a [op, op'] [b, d] pos) (tT c (mBl (mChain f f' A B E))) := by
  obtain ⟨r, h1, h2⟩ := cmp_ok g h
  obtain ⟨r', h3, h4⟩ := cmp_ok g h'
  exact t_chain h1 h3 h2 h4 ha hb hd (no_lastm hn)
theorem gP_neg (g : Good CX X c C) {A : M D} (ha : PE X a (tB c A)) : PE X (.UnaryOp .USub a pos) (tP c (mOp1 dNeg A)) := p_un un_neg (by rw [g.hK]; exact o_neg) ha
theorem gE_not (g : Good CX X c C) {A : M D} (ha : PE X a (tB c A)) : PE X (.UnaryOp .Not a pos) (tE c (eNotT A)) := e_notT g.hK ha
def plainT : Expr → Bool
  | .Name _ _ => true
  | .Call _ _ _ _ => true
  | .Subscript _ _ _ => true
  | .BinOp _ _ _ _ => true
  | _ => false
theorem gT_tru (g : Good CX X c C) {A : M D} (h : plainT a = true) (ha : PE X a (tB c A)) : PT X a (tT c (mTru A)) := t_tru g.hK ha fun whole => by
  cases a <;> first | rfl | cases h
theorem e_and1 {A : M D} (h : PE X a (tE c A)) : PE X (.BoolOp .And [a] pos) (tE c A) := ⟨h.run⟩
theorem e_or1 {A : M D} (h : PE X a (tE c A)) : PE X (.BoolOp .Or [a] pos) (tE c A) := ⟨h.run⟩
theorem gP_ix (g : Good CX X c C) {A B : M D} (hs : ixOk b = true) (ha : PE X a (tB c A)) (hb : PE X b (tB c B)) : PE X (.Subscript a b pos) (tP c (mOp2 dIx A B)) := p_ix g.hK ha hb hs
theorem gP_sl (g : Good CX X c C) {lo hi : Option Expr} {p2 : Pos} {A : M D} {L U : M (Option Int)} (ha : PE X a (tB c A)) (hl : PO X lo (tOP c L)) (hu : PO X hi (tOP c U)) : PE X (.Subscript a (.Slice lo hi none p2) pos) (tP c (mSl A L U)) := p_sl g.hK ha hl hu
theorem gP_bi (g : Good CX X c C) {f : List D → Option PV} {B : M (List D)} (h : biF x = some f) (hg : isGl C x = true) (hB : C.B.contains x = true) (hs : noStars (e :: es) = true) (ha : PA X (e :: es) (tAB c B)) : PE X (.Call (.Name x p) (e :: es) [] pos) (tP c (mOpN f B)) := by
  obtain ⟨h1, h2, h3⟩ := g.gl hg
  rcases bi_ok g h with ⟨id, r, k1, k2, k3⟩ | ⟨id, r, k1, k2, k3⟩
  · exact p_bi k2 k3 h1 (g.mgB hB) k1 ha hs h3 h2
  · exact p_ty k2 k3 h1 (g.mgB hB) k1 ha hs h3 h2
theorem Good.callee (g : Good CX X c C) {j : Nat} {gi : Gi} (h : C.G[j]? = some gi) : ∃ k, Ok X.prog X.w X.K X.mg X.base CX c.XR k gi ∧ Room k X.A := g.fun_ _ (List.mem_of_getElem? h)
theorem gE_call (g : Good CX X c C) {j : Nat} {gi : Gi} {B : M (List D)} {n : Nat} {fn : Fn} (h : C.G[j]? = some gi) (hx : gi.name = x) (hn : gi.ps.length = n) (hf : gi.fn = fn) (hg : isGl C x = true) (hs : noStars (e :: es) = true) (ha : PA X (e :: es) (tA c B)) :
    PE X (.Call (.Name x p) (e :: es) [] pos) (tE c (eCall n fn B)) := by
  subst hx hn hf
  obtain ⟨k, ⟨f, fd, hm, hk, F, hb, _⟩, room⟩ := g.callee h
  obtain ⟨h1, h2, _⟩ := g.gl hg
  rw [← g.hK] at F hb hk
  refine (pe_g (E := EW c) (g.hK ▸ F) room g.hG h1 hm (g.hK ▸ hk) (g.hK ▸ hb) g.pa ha hs h2).imp fun σ H Q q => ?_
  exact g.hK ▸ tE_call q
theorem gE_call0 (g : Good CX X c C) {j : Nat} {gi : Gi} {fn : Fn} (h : C.G[j]? = some gi) (hx : gi.name = x) (hn : gi.ps.length = 0) (hf : gi.fn = fn) (hg : isGl C x = true) :
    PE X (.Call (.Name x p) [] [] pos) (tE c (eCall 0 fn aNil)) := by
  subst hx hf
  obtain ⟨k, ⟨f, fd, hm, hk, F, hb, _⟩, room⟩ := g.callee h
  obtain ⟨h1, h2, _⟩ := g.gl hg
  refine (pe_g0 (E := EW c) F room g.hG h1 hm hk hb g.pa h2).imp fun σ H Q q => ?_
  have q2 := tE_call0 q
  rw [g.hK] at q2
  rw [hn]
  exact q2
def kwNames (kws : List Keyword) : List Str := kws.filterMap fun k => k.arg
def kwAll (kws : List Keyword) : Bool := kws.all fun k => k.arg.isSome
theorem kw_each {env : Env} : ∀ (kws : List Keyword), (keywordEach kws env).map (·.1) = kws.map (·.arg)
  | [] => rfl
  | ⟨a, e, p⟩ :: r => by
    show _ :: (keywordEach r env).map (·.1) = _ :: r.map (·.arg)
    rw [kw_each r]
theorem back_kw {pos : Pos} : ∀ (l : List (Option Str × Sem Value)), (backToKw pos l).map (·.1) = l.map (·.1)
  | [] => rfl
  | x :: r => by
    have := back_kw (pos := pos) r
    first
      | (show _ :: (backToKw pos r).map (·.1) = _ :: r.map (·.1); rw [this])
      | (unfold backToKw; simp)
theorem kw_names {env : Env} {kws : List Keyword} : (backToKw pos (keywordEach kws env)).map (·.1) = kws.map (·.arg) := (back_kw _).trans (kw_each kws)
theorem gE_callK (g : Good CX X c C) {j : Nat} {gi : Gi} {B : M (List D)} {n kn : Nat} {perm : List Nat} {fn : Fn} {kws : List Keyword} {ks : List Str} (h : C.G[j]? = some gi) (hx : gi.name = x) (hn : gi.ps.length = n) (hf : gi.fn = fn) (hg : isGl C x = true) (hq : (ks, perm) ∈ gi.kw) (hkn : ks.length = kn) (hks : kwNames kws = ks) (hall : kwAll kws = true)
    (ha : PK X kws (tA c B)) : PE X (.Call (.Name x p) [] kws pos) (tE c (eCallK n fn kn perm B)) := by
  subst hx hn hf hkn
  obtain ⟨k, ⟨f, fd, hm, hk, F, _, hb⟩, room⟩ := g.callee h
  obtain ⟨h1, h2, _⟩ := g.gl hg
  have nm := @kw_names pos X.env kws
  have e1 : (backToKw pos (keywordEach kws X.env)).all (·.1.isSome) = true := by
    have : ((backToKw pos (keywordEach kws X.env)).map (·.1)).all (·.isSome) = true := by
      rw [nm, List.all_map]
      exact hall
    rw [List.all_map] at this
    exact this
  have e2 : (backToKw pos (keywordEach kws X.env)).filterMap (·.1) = ks := by
    have : ((backToKw pos (keywordEach kws X.env)).map (·.1)).filterMap id = ks := by
      rw [nm, List.filterMap_map]
      exact hks
    rw [List.filterMap_map] at this
    exact this
  have e3 : (backToKw pos (keywordEach kws X.env)).any (·.1.isNone) = false := by
    rw [List.any_eq_false]
    intro y hy
    have := List.all_eq_true.mp e1 y hy
    cases z : y.1 <;> simp_all
  refine (pe_gk (E := EW c) (perm := perm) (ks := ks) F room g.hG h1 hm hk (hb _ hq) g.pa ha e1 e2 e3 h2).imp fun σ H Q q => ?_
  have q2 := tE_callK q
  rw [g.hK] at q2
  exact q2
theorem gP_lr1 (g : Good CX X c C) (hg : isGl C "list" = true) (hB : C.B.contains "list" = true) (hg2 : isGl C "range" = true) (hB2 : C.B.contains "range" = true) {A : M D} (hs : noStar a = true) (ha : PE X a (tE c A)) :
    PE X (.Call (.Name "list" p) [.Call (.Name "range" p2) [a] [] pos2] [] pos) (tP c (mLR1 A)) := p_lr1 g.calm (g.gl hg).1 (g.mgB hB) (g.gl hg2).1 (g.mgB hB2) ha hs
theorem gP_lr2 (g : Good CX X c C) (hg : isGl C "list" = true) (hB : C.B.contains "list" = true) (hg2 : isGl C "range" = true) (hB2 : C.B.contains "range" = true) {A B : M D} (hs : noStar a = true) (hs2 : noStar b = true) (ha : PE X a (tE c A)) (hb : PE X b (tE c B)) :
    PE X (.Call (.Name "list" p) [.Call (.Name "range" p2) [a, b] [] pos2] [] pos) (tP c (mLR2 A B)) := p_lr2 g.calm (g.gl hg).1 (g.mgB hB) (g.gl hg2).1 (g.mgB hB2) ha hb hs hs2
theorem gP_lrv (g : Good CX X c C) (hg : isGl C "list" = true) (hB : C.B.contains "list" = true) (hg2 : isGl C "reversed" = true) (hB2 : C.B.contains "reversed" = true) {A : M D} (hs : noStar a = true) (ha : PE X a (tE c A)) :
    PE X (.Call (.Name "list" p) [.Call (.Name "reversed" p2) [a] [] pos2] [] pos) (tP c (mLRv A)) := p_lrv g.hK g.calm (g.gl hg).1 (g.mgB hB) (g.gl hg2).1 (g.mgB hB2) ha hs
theorem gE_bag (g : Good CX X c C) (hg : isGl C "list" = true) (hB : C.B.contains "list" = true) (hg2 : isGl C "reversed" = true) (hB2 : C.B.contains "reversed" = true) {A B : M D} {k : Nat} {pk : Pos} (hs : noStar a = true) (hs2 : noStar b = true) (ha : PE X a (tE c A)) (hb : PE X b (tE c B)) :
    PE X (.List [.Call (.Name "list" p) [.Call (.Name "reversed" p2) [a] [] pos2] [] cpos, .Constant (.int 0) k pk, b] pos) (tE c (eBag A B)) := e_bag g.hK g.calm (g.gl hg).1 (g.mgB hB) (g.gl hg2).1 (g.mgB hB2) ha hb hs hs2
theorem gP_cnt (g : Good CX X c C) {A B : M D} (hb : baseOk2 o = true) (hs : noStar a = true) (hl : (apos.endLine == cpos.line) = true) (ho : PE X o (tB c A)) (ha : PE X a (tB c B)) : PE X (.Call (.Attribute o "count" apos) [a] [] cpos) (tP c (mCnt A B)) := p_cnt g.hK ho ha hb hs hl
theorem gX_pop (g : Good CX X c C) {i : Nat} {A : M D} (h : slot C x = some i) (hs : noStar e = true) (hl : (apos.endLine == cpos.line) = true) (ha : PE X e (tX c A)) : PE X (.Call (.Attribute (.Name x p) "pop" apos) [e] [] cpos) (tX c (ePop i A)) := by
  obtain ⟨h1, h2, h3, h4⟩ := g.slot h
  exact x_pop g.hK h1 h2 h3 h4 ha hs hl
theorem gX_pop0 (g : Good CX X c C) {i : Nat} (h : slot C x = some i) (hl : (apos.endLine == cpos.line) = true) : PE X (.Call (.Attribute (.Name x p) "pop" apos) [] [] cpos) (tX c (popM0 i)) := by
  obtain ⟨h1, h2, h3, h4⟩ := g.slot h
  exact x_pop0 g.hK h1 h2 h3 h4 hl
theorem gX_popR (g : Good CX X c C) {A : M D} (hb : baseOk o = true) (hl : (apos.endLine == cpos.line) = true) (ho : PE X o (tE c A)) : PE X (.Call (.Attribute o "pop" apos) [] [] cpos) (tX c (ePopR A)) := x_popR g.hK ho hb hl

/-! iterables, targets -/
variable {tg : Expr} {elts : List Expr} {kk : Nat} {tpos : Pos}
theorem gI_seq (g : Good CX X c C) {A : M D} (h : PE X e (tE c A)) : PI X tg e (tI c (iSeq A)) := i_seq g.hK h
theorem gI_rng1 (g : Good CX X c C) {A : M (List D)} (hg : isGl C "range" = true) (hB : C.B.contains "range" = true) (hs : noStar a = true) (ha : PA X [a] (tA c A)) : PI X tg (.Call (.Name "range" p) [a] [] pos) (tI c (iRng1 A)) := i_rng1 (g.gl hg).1 (g.mgB hB) hs ha
theorem gI_rng2 (g : Good CX X c C) {A : M (List D)} (hg : isGl C "range" = true) (hB : C.B.contains "range" = true) (hs : noStar a = true) (hs2 : noStar b = true) (ha : PA X [a, b] (tA c A)) : PI X tg (.Call (.Name "range" p) [a, b] [] pos) (tI c (iRng2 A)) := i_rng2 (g.gl hg).1 (g.mgB hB) hs hs2 ha
theorem gI_enu (g : Good CX X c C) {A : M (List D)} (hg : isGl C "enumerate" = true) (hB : C.B.contains "enumerate" = true) (hs : noStar e = true) (ha : PA X [e] (tA c A)) : PI X (.Tuple elts kk tpos) (.Call (.Name "enumerate" p) [e] [] pos) (tI c (iEnu A)) := i_enu g.hK (g.gl hg).1 (g.mgB hB) hs ha
theorem gI_rv (g : Good CX X c C) {A : M D} (hg : isGl C "reversed" = true) (hB : C.B.contains "reversed" = true) (hs : noStar e = true) (h : PE X e (tE c A)) : PI X tg (.Call (.Name "reversed" p) [e] [] pos) (tI c (iRv A)) :=
  i_rv g.hK h fun he => RT.pi_revA (g.gl hg).1 (g.mgB hB) he (star_cons hs)
theorem gG_name (g : Good CX X c C) {i : Nat} (h : slot C x = some i) (hs : stB C.sc C.fs x = true) : PG X (.Name x pos) (gT c [i] (tgN i)) := by
  obtain ⟨h1, h2⟩ := g.fnok _ hs
  exact g_name g.nd (g.slot h).1 h1 h2
theorem gG_tup (g : Good CX X c C) {n : Nat} {s1 : List Nat} {f : List D → En → Option En} (hl : es.length = n) (hs : noStars es = true) (h : PGs X es (gTs c s1 f)) : PG X (.Tuple es kk pos) (gT c s1 (tgT n f)) := g_tup g.hK g.calm h hl hs
theorem gS_name (g : Good CX X c C) {i : Nat} {is : List Nat} (h : slot C x = some i) (hs : stB C.sc C.fs x = true) (h2 : PGs X es (gSet is)) : PGs X (.Name x p :: es) (gSet (i :: is)) := by
  obtain ⟨h1, h3⟩ := g.fnok _ hs
  exact gset_cons g.nd (g.slot h).1 h1 h3 h2

/-! comprehensions -/
def blkCt (C : Ct) (scope : Scope) : Ct := { C with sc := relS scope C.sc, fs := scope }
theorem relS_eq (g : Good CX X c C) (scope : Scope) : relabel scope X.env = relS scope C.sc := by
  rw [← g.sc]
  rfl
theorem stB_ok {sc fs : Scope} {fn : Str → Bool} (hf : ∀ y, fs.names.lookup y = some .cell → fn y = true) {y : Str} (h : stB sc fs y = true) : Loc sc y ∧ (fn y = true ∨ sc.names.lookup y = some .local) := by
  unfold stB at h
  split at h
  · rename_i e; exact ⟨.inl e, .inr e⟩
  · rename_i e; exact ⟨.inr e, .inl (hf _ (by simpa using h))⟩
  · cases h
theorem Good.blk (g : Good CX X c C) {scope : Scope} (hk : scope.kind = .function) (s : Shared) (H : Hp) (K' : Addr) (cl : List (Str × Addr)) (fp : List Addr) : Good CX (X.blk s H scope (compEnvC scope cl K' X.env) fp) c.noW (blkCt C scope) where
  hK := g.hK
  hN := g.hN
  nd := g.nd
  sc := relS_eq g scope
  kd := hk
  calm := g.calm
  hG := g.hG
  un := g.un
  fnok := fun y h => by
    have q := stB_ok (fn := fun x => scope.names.lookup x == some .cell) (fun y e => by
      show (scope.names.lookup y == some .cell) = true
      have e2 : scope.names.lookup y = some .cell := e
      rw [e2]
      rfl) h
    have e : (compEnvC scope cl K' X.env).scope = relS scope C.sc := relS_eq g scope
    show Loc (compEnvC scope cl K' X.env).scope y ∧ (_ ∨ (compEnvC scope cl K' X.env).scope.names.lookup y = _)
    rw [e]
    exact q
  pass := PassesOwn.never
  cx0 := g.cx0
  pa := fun σ pins H s e s' _ h => g.cx0 _ _ _ _ _ h
  blt := g.blt
  con := g.con
  fun_ := g.fun_
theorem set_iter {iter : Expr} (h : noSet iter = true) (env : Env) (x : Value) : foldedSetIterable iter env x = pure x := by
  cases iter <;> first | rfl | cases h
theorem gP_lc (g : Good CX X c C) {elt tg iter : Expr} {ifs : List Expr} {scope : Scope} {own : List (Str × Nat)} {vs sl : List Nat} {it : M (List D)} {T : TgF} {tst : M Bool} {E : M D} (ok : blkC C.N C.sc scope own = true) (hv : own.map (·.2) = vs) (hsl : sl.all (fun j => vs.contains j) = true) (hs : noSet iter = true)
    (hi : PI X tg iter (tI c it)) (hg : ∀ {Xb : Cx}, Good CX Xb c.noW (blkCt C scope) → PG Xb tg (gT c.noW sl T)) (ht : ∀ {Xb : Cx}, Good CX Xb c.noW (blkCt C scope) → PTs Xb ifs (tT c.noW tst)) (he : ∀ {Xb : Cx}, Good CX Xb c.noW (blkCt C scope) → PE Xb elt (tE c.noW E)) :
    PE X (.ListComp elt [⟨tg, iter, ifs, 0⟩] scope pos) (tP c (pLc it T tst E vs)) := by
  subst hv
  have ok' := blkOk_by ok
  have ok2 : BlkOk X.N X.env.scope scope own := by rw [g.hN, g.sc]; exact ok'
  exact (pe_lc g.calm g.nd hi ok2 (fun s H K' cl fp => hg (g.blk ok'.kind s H K' cl fp)) (fun s H K' cl fp => ht (g.blk ok'.kind s H K' cl fp)) (fun s H K' cl fp => he (g.blk ok'.kind s H K' cl fp)) (set_iter hs _)).imp fun σ H Q h => tP_lc (fun j hj => by simpa using List.all_eq_true.mp hsl j hj) h
theorem gT_none : PTs X [] (tT c tstT) := by
  refine ⟨fun pins s σ H Q I h => pts_nil.run pins s σ H Q I ?_⟩
  obtain ⟨N, F, as, env, st, r, p⟩ := h
  exact Post.here p r
theorem gT_one {A : M Bool} (h : PT X e (tT c A)) : PTs X [e] (tT c A) := pts_one h

/-! statements -/
theorem gS_set (g : Good CX X c C) {i : Nat} {pos' : Pos} {A : M PR} (h : slot C x = some i) (hs : stB C.sc C.fs x = true) (hc : noComp e = true) (ha : PE X e (tP c A)) : PS X (.Assign [.Name x pos'] e pos) (tS c (sSet i A)) := by
  obtain ⟨h1, h2⟩ := g.fnok _ hs
  exact s_set g.nd (g.slot h).1 h1 h2 ha (no_swap hc _ _ _)
theorem gS_setX (g : Good CX X c C) {i : Nat} {pos' : Pos} {A : M D} (h : slot C x = some i) (hs : stB C.sc C.fs x = true) (hc : noComp e = true) (ha : PE X e (tX c A)) : PS X (.Assign [.Name x pos'] e pos) (tS c (sSet i (up A))) := by
  obtain ⟨h1, h2⟩ := g.fnok _ hs
  exact s_setX g.nd (g.slot h).1 h1 h2 ha (no_swap hc _ _ _)
def locB (sc : Scope) (x : Str) : Bool := match sc.names.lookup x with
  | some .local => true
  | _ => false
theorem loc_ok {sc : Scope} (h : locB sc x = true) : sc.names.lookup x = some .local := by
  unfold locB at h
  split at h
  · assumption
  · cases h
theorem gS_setLc (g : Good CX X c C) {i : Nat} {pos' lpos : Pos} {elt tg iter : Expr} {ifs : List Expr} {scope : Scope} {own : List (Str × Nat)} {vs sl : List Nat} {it : M (List D)} {T : TgF} {tst : M Bool} {E : M D} (h : slot C x = some i) (hx : locB C.sc x = true)
    (ha : (pos'.line == lpos.line) = true) (hn : (scope.names.any fun (n, k) => n == x && (k == .local || k == .cell)) = false)
    (ok : blkC C.N C.sc scope own = true) (hv : own.map (·.2) = vs) (hsl : sl.all (fun j => vs.contains j) = true) (hs : noSet iter = true)
    (hi : PI X tg iter (tI c it)) (hg : ∀ {Xb : Cx}, Good CX Xb c.noW (blkCt C scope) → PG Xb tg (gT c.noW sl T)) (ht : ∀ {Xb : Cx}, Good CX Xb c.noW (blkCt C scope) → PTs Xb ifs (tT c.noW tst)) (he : ∀ {Xb : Cx}, Good CX Xb c.noW (blkCt C scope) → PE Xb elt (tE c.noW E)) :
    PS X (.Assign [.Name x pos'] (.ListComp elt [⟨tg, iter, ifs, 0⟩] scope lpos) pos) (tS c (sSet i (pLc it T tst E vs))) := by
  subst hv
  have ok' := blkOk_by ok
  have ok2 : BlkOk X.N X.env.scope scope own := by rw [g.hN, g.sc]; exact ok'
  have hy : X.env.scope.names.lookup x = some .local := by rw [g.sc]; exact loc_ok hx
  exact (ps_setLc g.calm g.nd (g.slot h).1 hy (sw_true g.kd hy ha hn) hi ok2 (fun s H K' cl fp => hg (g.blk ok'.kind s H K' cl fp)) (fun s H K' cl fp => ht (g.blk ok'.kind s H K' cl fp)) (fun s H K' cl fp => he (g.blk ok'.kind s H K' cl fp)) (set_iter hs _)).lenImp fun D σ H l q => by
    obtain ⟨N, F, as, env, st, r, p⟩ := (tS_set (by rw [l]; exact lt_of_get (g.slot h).1) q : tAsg (tP c (pLc it T tst E (own.map (·.2)))) (gName i) D σ H)
    exact tP_lc (fun j hj => by simpa using List.all_eq_true.mp hsl j hj) ⟨N, F, as, env, st, r, p⟩
theorem gS_app (g : Good CX X c C) {i : Nat} {np : Pos} {A : M D} (h : slot C x = some i) (hs : noStar e = true) (hl : (apos.endLine == cpos.line) = true) (ha : PE X e (tX c A)) : PS X (.Expr (.Call (.Attribute (.Name x np) "append" apos) [e] [] cpos) pos) (tS c (sApp i A)) := by
  obtain ⟨h1, h2, h3, h4⟩ := g.slot h
  exact s_app g.hK h1 h2 h3 h4 ha hs hl
theorem gS_ext (g : Good CX X c C) {i : Nat} {np : Pos} {A : M D} (h : slot C x = some i) (hs : noStar e = true) (hl : (apos.endLine == cpos.line) = true) (ha : PE X e (tB c A)) : PS X (.Expr (.Call (.Attribute (.Name x np) "extend" apos) [e] [] cpos) pos) (tS c (sExt i A)) := by
  obtain ⟨h1, h2, h3, h4⟩ := g.slot h
  exact s_ext g.hK h1 h2 h3 h4 ha hs hl
theorem gS_st (g : Good CX X c C) {i : Nat} {np p' : Pos} {k : Expr} {A B : M D} (h : slot C x = some i) (hx : ixOk k = true) (ha : PE X e (tX c A)) (hk : PE X k (tE c B)) : PS X (.Assign [.Subscript (.Name x np) k p'] e pos) (tS c (sStI i A B)) := by
  obtain ⟨h1, h2, h3, h4⟩ := g.slot h
  exact s_st g.hK h1 h2 h3 h4 ha hk hx
theorem gS_for (g : Good CX X c C) {iter : Expr} {body : List Stmt} {it : M (List D)} {T : TgF} {sl : List Nat} {B : SM} (hs : noSet iter = true) (hi : PI X tg iter (tI c it)) (hg : PG X tg (gT c sl T)) (hb : PSs X body (tS c B)) : PS X (.For tg iter body [] pos) (tS c (sFor it T B)) :=
  (ps_for g.pass g.calm hi hg hb (set_iter hs _)).imp fun _ _ _ => tS_for
theorem gS_while (g : Good CX X c C) {t : Expr} {body : List Stmt} {T : M Bool} {B : SM} (ht : PT X t (tT c T)) (hb : PSs X body (tS c B)) : PS X (.While t body [] pos) (tS c (sWhile T B)) :=
  (ps_while g.pass ht hb).imp fun _ _ _ => tS_while
/-- what swappedStores tells, where it can be told from the text -/
def swN (sc : Scope) (ts : List Expr) : List Str := ts.filterMap fun
  | .Name id pos => if sc.names.lookup id == some .local && pos.line == (ts.head?.map (·.pos.line)).getD 0 then some id else none
  | _ => none
def sw1 (ts vs : List Expr) : Bool := !(ts.length == 2 || ts.length == 3) || vs.length != ts.length
def sw2 (vs : List Expr) : Bool := vs.any fun | .Starred .. => true | _ => false
def sw3 (sc : Scope) (ts : List Expr) : Bool := (swN sc ts).length != ts.length || (swN sc ts).eraseDups.length != (swN sc ts).length
def swS (sc : Scope) (ts vs : List Expr) : Option (Option (List Str)) :=
  if sw1 ts vs = true then some none else if sw2 vs = true then some none else if sw3 sc ts = true then some none else if vs.all (foldedForSure 8) = true then some none else if vs.all (constantsAlone 8) = true then none else some (some (swN sc ts))
theorem swS_ok {env : Env} {ts vs : List Expr} {k1 k2 : Nat} {p1 p2 : Pos} {r : Option (List Str)} (hk : env.scope.kind = .function) (h : swS env.scope ts vs = some r) : swappedStores [.Tuple ts k1 p1] (.Tuple vs k2 p2) env = pure r := by
  have hb : env.blockKind = .function := by unfold Env.blockKind; rw [hk]; rfl
  have e : swappedStores [.Tuple ts k1 p1] (.Tuple vs k2 p2) env = (if (sw1 ts vs || env.blockKind != .function) = true then pure none else if sw2 vs = true then pure none else if sw3 env.scope ts = true then pure none else if vs.all (foldedForSure 8) = true then pure none else if vs.all (constantsAlone 8) = true then (do unsupported "assign.tuple-of-constant-expressions:order-of-the-stores"; pure (some (swN env.scope ts))) else pure (some (swN env.scope ts))) := by
    rfl
  rw [e, hb]
  have hz : (ScopeKind.function != ScopeKind.function) = false := by decide
  rw [hz, Bool.or_false]
  unfold swS at h
  generalize sw1 ts vs = b1 at h ⊢
  generalize sw2 vs = b2 at h ⊢
  generalize sw3 env.scope ts = b3 at h ⊢
  generalize vs.all (foldedForSure 8) = b4 at h ⊢
  generalize vs.all (constantsAlone 8) = b5 at h ⊢
  generalize swN env.scope ts = nn at h ⊢
  cases b1 <;> cases b2 <;> cases b3 <;> cases b4 <;> cases b5 <;> simp at h <;> subst h <;> rfl
theorem gS_parT (g : Good CX X c C) {ts : List Expr} {k1 k2 : Nat} {p1 p2 : Pos} {is : List Nat} {A : M (List PR)} (hw : swS C.sc ts es = some none) (hl : ts.length = is.length) (hs : noStars ts = true) (hi : is.all (fun i => decide (i < C.N.length)) = true) (hsz : is.length ≤ 1000) (ha : PA X es (tPs c A)) (hg : PGs X ts (gSet is)) :
    PS X (.Assign [.Tuple ts k1 p1] (.Tuple es k2 p2) pos) (tS c (sPar is A)) :=
  s_parT g.calm ha hg hl hs (fun i m => by rw [g.hN]; simpa using List.all_eq_true.mp hi i m) (Nat.le_trans hsz (by unfold lim; decide)) (swS_ok g.kd (by rw [g.sc]; exact hw))
theorem gS_par2 (g : Good CX X c C) {x y : Str} {px py p1 p2 : Pos} {k1 k2 : Nat} {i j : Nat} {A : M (List PR)} (hi : slot C x = some i) (hj : slot C y = some j) (hij : i ≠ j) (hx : locB C.sc x = true) (hy : locB C.sc y = true) (hw : swS C.sc [.Name x px, .Name y py] [a, b] = some (some [x, y])) (ha : PA X [a, b] (tPs c A)) :
    PS X (.Assign [.Tuple [.Name x px, .Name y py] k1 p1] (.Tuple [a, b] k2 p2) pos) (tS c (sPar [i, j] A)) :=
  s_par2 g.calm g.nd (g.slot hi).1 (g.slot hj).1 hij (by rw [g.sc]; exact loc_ok hx) (by rw [g.sc]; exact loc_ok hy) ha (swS_ok g.kd (by rw [g.sc]; exact hw))
theorem gS_par3 (g : Good CX X c C) {x y z : Str} {px py pz p1 p2 : Pos} {k1 k2 : Nat} {i j l : Nat} {A : M (List PR)} (hi : slot C x = some i) (hj : slot C y = some j) (hl : slot C z = some l) (hij : i ≠ j) (hil : i ≠ l) (hjl : j ≠ l) (hx : locB C.sc x = true) (hy : locB C.sc y = true) (hz : locB C.sc z = true)
    (hw : swS C.sc [.Name x px, .Name y py, .Name z pz] [a, b, d] = some (some [x, y, z])) (ha : PA X [a, b, d] (tPs c A)) :
    PS X (.Assign [.Tuple [.Name x px, .Name y py, .Name z pz] k1 p1] (.Tuple [a, b, d] k2 p2) pos) (tS c (sPar [i, j, l] A)) :=
  s_par3 g.calm g.nd (g.slot hi).1 (g.slot hj).1 (g.slot hl).1 hij hil hjl (by rw [g.sc]; exact loc_ok hx) (by rw [g.sc]; exact loc_ok hy) (by rw [g.sc]; exact loc_ok hz) ha (swS_ok g.kd (by rw [g.sc]; exact hw))
end

/-! a def -/
theorem all_nil {α : Type} {p : α → Prop} : ∀ a ∈ ([] : List α), p a := fun _ h => (by cases h)
theorem all_cons {α : Type} {p : α → Prop} {a : α} {l : List α} (h : p a) (t : ∀ b ∈ l, p b) : ∀ b ∈ a :: l, p b := fun b m => by
  rcases List.mem_cons.mp m with e | m
  · rw [e]; exact h
  · exact t b m
def noXR : Hp → List Addr → Hp → Ex → Value → Option Addr → Prop := fun _ _ _ _ _ _ => False
section
variable {P : Program} {w : World} {K : PySem.W.Frag} {mg : Str → Option Value} {base : Heap} {x : Str} {st : Stmt} {f : Addr} {fd : FuncData} {NN ps : List Str} {k : Nat} {C : Ct} {body : SM}
theorem mkOk (F : Fun K x x st f fd) (hm : mg x = some (.ref f)) (S : FnScope NN ps (defScope st)) (hN : C.N = NN) (hs : C.sc = defScope st) (hf : C.fs = defScope st) (hb : Binds K fd ps []) {kws : List (List Str × List Nat)}
    (hk : ∀ q ∈ kws, ∀ (s : Shared) (ws : List Value), K.In s.heap → ws.length = q.1.length → BindsTo s fd ⟨[], q.1.zip ws⟩ (ps.zip (pick q.2 ws)))
    (deps : ∀ g ∈ C.G, Ok P w K mg base CX0 noXR k g) (blt : ∀ b ∈ C.B, mg b = none) (con : ∀ y ∈ C.GC, ∃ u v, mg y.1 = some u ∧ RelV v u ∧ ∀ F as, Rep K F as v y.2)
    (hbody : ∀ {X : Cx} {c : Cc}, Good CX0 X c C → PSs X (defBody st) (tS c body)) : Ok P w K mg base CX0 noXR (k + 1) ⟨x, ps, fnOf NN.length body, kws⟩ := by
  refine ⟨f, fd, hm, F.kp, ?_, hb, hk⟩
  refine FnG.of F S (fun vs H Q E h => h.1) fun cd A outer s H vs Q E room hG hsp => ?_
  refine ⟨tS ⟨K, fun cls d _ H => E cls d H, noXR⟩ body, hbody (X := cxOf CX0 P w K mg base NN x (defScope st) f cd A outer s H E) (c := ⟨K, fun cls d _ H => E cls d H, noXR⟩) ?_, body_ok (fun _ _ _ _ h => h) hsp⟩
  exact {
    hK := rfl
    hN := hN.symm
    nd := S.nd
    sc := hs.symm
    kd := S.kind
    calm := rfl
    hG := hG
    un := by
      have := room.un
      show (A.deeper _).units + 80 < cLine
      omega
    fnok := fun y h => by
      rw [hs, hf] at h
      exact stB_ok (fn := fun _ => true) (fun _ _ => rfl) h
    pass := PassesOwn.leaving
    cx0 := fun _ _ _ _ _ h => h
    pa := fun _ _ _ _ _ _ _ h => h.elim
    blt := blt
    con := con
    fun_ := fun g hg => ⟨k, deps g hg, room⟩ }
end
end PD
/-! PD, part 18: the head of a law, from its function of data -/
namespace PD
open PySem PySem.Spec PyProof.Rows L2
theorem scr_rep {K : PySem.W.Frag} {F : Hp} {as : List Addr} : ∀ ns : List Int, RepL K F as (ns.map V.int) (ns.map D.int)
  | [] => .nil
  | n :: r => .cons (.int n) (scr_rep r)
def FnTrue (n : Nat) (fn : Fn) : Prop := ∀ ns : List Int, ns.length ≤ n → ∃ st, fn [.fzl (ns.map D.int)] [] = .ok (.bl true) st
theorem spTrue {K : PySem.W.Frag} {n : Nat} {fn : Fn} (h : FnTrue n fn) {H : Hp} {a : Addr} {ns : List Int} (hl : ns.length ≤ n) (hS : SqL K H a (ns.map V.int)) : spF K noXR 1 fn [.ref a] H (fun v _ => v = .bl true) fun _ _ _ => False := by
  obtain ⟨st, e⟩ := h ns hl
  refine ⟨rfl, H, [], [], _, ⟨Le.refl H, rfl, fun n xs z => ?_, List.nodup_nil, fun b m => (by cases m)⟩, .cons (.fzl hS (scr_rep ns)) .nil, ?_⟩
  · cases z
  · rw [e]
    intro v F' as' H' _ _ _ _ r
    cases r
    rfl
/-- a call by the claim's caller, with the abstract heap G0 behind it -/
theorem call_by {P : Program} {w : World} {K : PySem.W.Frag} {mg mb : Str → Option Value} {k : Nat} {fa a : Addr} {x : Str} {sp : Sp} {t : Shared} {vs : List Value} {G0 : Hp}
    (kin : K.In t.heap) (ng : t.heap.Ns mainGlobals mg) (nb : t.heap.Ns builtinsNs mb) (nbb : ∀ y : Str, y ≠ "__name__" → mb y = bootBuiltins y) (nl : t.heap.NoLimit) (gens : t.gens = #[])
    (oa : t.heap.get? a = some { cls := .type "list", data := .seq vs.toArray }) (room : Room k callerA)
    (FG : ∀ base : Heap, K.In base → base.Ns mainGlobals mg → ∃ fd, FnG P w K mg base CX0 k fa fd [x] sp ∧ BindsTo t fd ⟨[.ref a], []⟩ [(x, .ref a)])
    (only : Only G0) (good : HOk P w G0 t.heap) (just : ∀ b, G0 b ≠ none → b = a) (nok : G0 a ≠ none → K.lookup a = none)
    (want : sp [.ref a] G0 (fun v _ => v = .bl true) fun _ _ _ => False) :
    codeAny (model P w) callerA (.call (.ref fa) ⟨[.ref a], []⟩) (fun r t' => r = .ok (.ret (.bool true)) ∧ OldK t.heap t'.heap ∧ t'.os = t.os ∧ AllBare t'.gens) t := by
  have other : ∀ {b : Addr} {o : Obj} {es : Array DictEntry} {n : Nat}, t.heap.get? b = some o → o.data = .dict es n → G0 b = none := by
    intro b o es n e1 e2
    cases q : G0 b with
    | none => rfl
    | some u =>
      have z : b = a := just b fun y => by rw [q] at y; cases y
      rw [z, oa] at e1
      cases e1
      cases e2
  have ns' : ∀ {b : Addr} {m : Str → Option Value}, t.heap.Ns b m → (hidT t.heap G0).Ns b m := fun {b m} h => by
    obtain ⟨o, es, n, e1, e2, e3⟩ := h
    exact ⟨o, es, n, hidT_get e1 (other e1 e2), e2, e3⟩
  have kin' : K.In (hidT t.heap G0) := fun b o e => hidT_get (kin b o e) (by
    cases q : G0 b with
    | none => rfl
    | some u =>
      have y : G0 b ≠ none := fun y => by rw [q] at y; cases y
      have z : b = a := just b y
      subst z
      rw [nok y] at e
      cases e)
  have md : Mod K mg (hidT t.heap G0) := ⟨kin', ns' ng, ⟨mb, ns' nb, nbb⟩, by obtain ⟨mc, l1, l2⟩ := nl; exact ⟨mc, ns' l1, l2⟩⟩
  have ev : Env0 P w K mg (hidT t.heap G0) callerA [] t G0 := ⟨rfl, md, fun b o e => of_hidT e, Nat.le_of_eq (hidT_size _ _), trivial, fun b hb => (by cases hb), good, .of_eq gens⟩
  obtain ⟨fd, f, bd⟩ := FG _ kin' (ns' ng)
  refine codeAny_mono (f.run callerA [] t G0 ⟨[.ref a], []⟩ [.ref a] [.ref a] _ _ room rfl ev bd (.cons rfl .nil) want) fun r t' h => ?_
  match r, h with
  | .error e, h => exact (show False from h).elim
  | .ok .next, h => exact False.elim h
  | .ok .brk, h => exact False.elim h
  | .ok .cont, h => exact False.elim h
  | .ok (.ret u), ⟨v, G1, os, bare, un, good', rv, q⟩ =>
    have qv : v = .bl true := q
    rw [qv] at rv
    have eu : u = Value.bool true := rv
    refine ⟨by rw [eu], OldK.of_keep fun b o e => ?_, os, bare⟩
    cases q : G0 b with
    | none => exact un.keep b o e q (fun z => by cases z) (by simp)
    | some u =>
      rcases only b with z | ⟨ob, xs, z⟩
      · rw [q] at z; cases z
      · obtain ⟨e1, _⟩ := good b _ z
        obtain ⟨e2, _⟩ := good' b _ (un.frzs b ob _ z)
        rw [e] at e1
        cases e1
        exact e2
theorem head_call {P : Program} {w : World} {K : PySem.W.Frag} {mg mb : Str → Option Value} {k n : Nat} {fa a : Addr} {x y : Str} {fn : Fn} {t : Shared} {vs : List Value} {ns : List Int}
    (kin : K.In t.heap) (ng : t.heap.Ns mainGlobals mg) (nb : t.heap.Ns builtinsNs mb) (nbb : ∀ y : Str, y ≠ "__name__" → mb y = bootBuiltins y) (nl : t.heap.NoLimit) (gens : t.gens = #[])
    (oa : t.heap.get? a = some { cls := .type "list", data := .seq vs.toArray }) (hi : IntsAre vs ns) (hl : ns.length ≤ n) (hn : n ≤ sizeLine) (room : Room k callerA) (hfa : mg y = some (.ref fa))
    (F : ∀ base : Heap, K.In base → base.Ns mainGlobals mg → Ok P w K mg base CX0 noXR k ⟨y, [x], fn, []⟩) (law : FnTrue n fn) :
    codeAny (model P w) callerA (.call (.ref fa) ⟨[.ref a], []⟩) (fun r t' => r = .ok (.ret (.bool true)) ∧ OldK t.heap t'.heap ∧ t'.os = t.os ∧ AllBare t'.gens) t := by
  have FG : ∀ base : Heap, K.In base → base.Ns mainGlobals mg → ∃ fd, FnG P w K mg base CX0 k fa fd [x] (spF K noXR 1 fn) ∧ BindsTo t fd ⟨[.ref a], []⟩ [(x, .ref a)] := fun base h1 h2 => by
    obtain ⟨f, fd, e, _, g, b, _⟩ := F base h1 h2
    have e2 : some (Value.ref f) = some (.ref fa) := e.symm.trans hfa
    cases e2
    exact ⟨fd, g, b t [.ref a] kin rfl⟩
  have rv := vals_ints hi
  have lv := hi.length
  cases hk : K.lookup a with
  | some o =>
    have e := kin a o hk
    rw [oa] at e
    cases e
    have sq : SqL K (fun _ => none) a (ns.map V.int) := .inr ⟨_, vs.toArray, _, hk, rfl, rfl, rfl, by rw [List.size_toArray, lv]; omega, by simpa using rv⟩
    exact call_by (G0 := fun _ => none) kin ng nb nbb nl gens oa room FG (fun b => .inl rfl) (fun b u z => by cases z) (fun b z => absurd rfl z) (fun z => absurd rfl z) (spTrue law hl sq)
  | none =>
    obtain ⟨G0, at_, off⟩ : ∃ G0 : Hp, G0 a = some (HO.frz { cls := .type "list", data := .seq vs.toArray } (.lst (ns.map V.int))) ∧ ∀ b, b ≠ a → G0 b = none :=
      ⟨fun b => if b = a then some (HO.frz { cls := .type "list", data := .seq vs.toArray } (.lst (ns.map V.int))) else none, if_pos rfl, fun b h => if_neg h⟩
    refine call_by kin ng nb nbb nl gens oa room FG (fun b => ?_) (fun b u z => ?_) (fun b z => ?_) (fun _ => hk) (spTrue law hl (.inl (.inr ⟨_, at_⟩)))
    · by_cases hb : b = a
      · rw [hb]; exact .inr ⟨_, _, at_⟩
      · exact .inl (off b hb)
    · by_cases hb : b = a
      · subst hb
        rw [at_] at z
        cases z
        exact ⟨oa, by rw [List.length_map]; omega, vs, _, rv, oa⟩
      · rw [off b hb] at z; cases z
    · by_cases hb : b = a
      · exact hb
      · exact absurd (off b hb) z
/-- what k_head leaves (case hc) -/
theorem walk {l : PySem.W.OpenLaw} {n k : Nat} {q : Program} {loose : List Str} {XP : (Str → Option Value) → Heap → Prop} {YP : World → Heap → Prop} {d : DefRec} {K : Params → PySem.W.Frag} {x : Str} {fn : Fn}
    (hn : l.most = some n) (hn2 : n ≤ sizeLine) (hdf : d.params.defaults = []) (hr : Room k callerA) (hY : ∀ (w : World) (h : Heap), YP w h → (K w.params).In h)
    (F : ∀ (w : World) (mg : Str → Option Value) (h : Heap), (K w.params).In h → h.Ns mainGlobals mg → ∀ base : Heap, (K w.params).In base → base.Ns mainGlobals mg → Ok l.prog w (K w.params) mg base CX0 noXR k ⟨d.name, [x], fn, []⟩)
    (law : FnTrue n fn) : PySem.W.WalkO q loose XP YP l.row.toRowW d [] (fun f vs => PySem.call f vs) := by
  refine Att.attach_call hn hdf fun w _ t mg mb fa o pm cd doc a vs ns G Y _ _ _ hmg oa hi hl hg => ?_
  exact head_call (hY w _ Y) G.T.g G.T.b G.T.builtins G.T.nolimit hg oa hi hl hn2 hr hmg (F w mg _ (hY w _ Y) G.T.g) law
end PD
/-! PD, part 19: what the printer leans on -/
namespace PD
open PySem PySem.Spec PyProof.Rows L2
theorem Ok.up {P : Program} {w : World} {K : PySem.W.Frag} {mg : Str → Option Value} {base : Heap} {CX : CXT} {XR : Hp → List Addr → Hp → Ex → Value → Option Addr → Prop} {k k' : Nat} {g : Gi} (h : Ok P w K mg base CX XR k g) (hk : k ≤ k') : Ok P w K mg base CX XR k' g := by
  obtain ⟨f, fd, h1, h2, F, h3, h4⟩ := h
  exact ⟨f, fd, h1, h2, ⟨F.len, fun A outer s H args us vs Q E room => F.run A outer s H args us vs Q E (room.mono hk)⟩, h3, h4⟩
theorem _root_.L2.Fun.kbinds {K : PySem.W.Frag} {x qual : Str} {st : Stmt} {f : Addr} {fd : FuncData} {ps ks : List Str} {pm : List Nat} (F : Fun K x qual st f fd)
    (h : ∀ (kV doc pv : Value) (an : Option Addr) (cdv ct : Value) (ws : List Value), ws.length = ks.length → bindArgs (PySem.W.fnOf x qual (defArgs st) (defBody st) (defScope st) .none kV doc pv an cdv ct) ⟨[], ks.zip ws⟩ = pure (ps.zip (pick pm ws)))
    (s : Shared) (ws : List Value) (hl : ws.length = ks.length) : BindsTo s fd ⟨[], ks.zip ws⟩ (ps.zip (pick pm ws)) := by
  obtain ⟨oc, od, kV, doc, pv, an, cdv, ct, osl, e, lk, hcd⟩ := F.ex
  subst e
  exact .of_eq (h _ _ _ _ _ _ _ hl)
theorem gI_zp {CX : CXT} {X : Cx} {c : Cc} {C : Ct} {e e2 : Expr} {elts : List Expr} {kk : Nat} {tpos p pos : Pos} {A : M (List D)} (g : Good CX X c C) (hg : isGl C "zip" = true) (hB : C.B.contains "zip" = true) (hs : noStar e = true) (hs2 : noStar e2 = true) (ha : PA X [e, e2] (tA c A)) : PI X (.Tuple elts kk tpos) (.Call (.Name "zip" p) [e, e2] [] pos) (tI c (iZp A)) :=
  i_zp g.hK (g.gl hg).1 (g.mgB hB) ha fun h => RZ.pi_zipA (g.gl hg).1 (g.mgB hB) h (by rw [star_cons hs]) (stars_any (es := [e2]) (by unfold noStars; rw [List.all_cons, hs2]; rfl))
end PD
/-! PD, part 20: running the functions of data by hand -/
namespace PD
open PySem PySem.Spec PyProof.Rows L2
def Res.thn {α β : Type} (r : Res α) (k : α → M β) : Res β := match r with
  | .ok a e s => k a e s
  | .exc x e s => .exc x e s
  | .bad => .bad
section
variable {α β : Type} {e : En} {s : Sto} {d : D} {ds : List D} {i : Nat}
theorem v_ok {a : α} {k : α → M β} : (Res.ok a e s).thn k = k a e s := rfl
theorem v_bad {k : α → M β} : (Res.bad : Res α).thn k = .bad := rfl
theorem v_bnd {m : M α} {k : α → M β} : bnd m k e s = (m e s).thn k := rfl
theorem v_ret {a : α} : ret a e s = .ok a e s := rfl
theorem v_no : (noRes : M α) e s = .bad := rfl
theorem v_eVar : eVar i e s = match e[i]? with
  | some (.val d) => .ok d e s
  | some (.own o) => .ok o.d (e.set i (.val o.d)) s
  | _ => .bad := rfl
theorem v_bVar : bVar i e s = match e[i]? with
  | some (.val d) => .ok d e s
  | some (.own o) => .ok o.d e s
  | _ => .bad := rfl
theorem v_fz {m : M PR} : fz m e s = (m e s).thn frz := rfl
theorem v_frz {p : PR} : frz p e s = .ok p.d e s := rfl
theorem v_up {m : M D} : up m e s = (m e s).thn fro := rfl
theorem v_fro : fro d e s = .ok (.fro d) e s := rfl
theorem v_op2 {f : D → D → Option PV} {a b : M D} : mOp2 f a b e s = (a e s).thn fun x => bnd b (pv2 f x) := rfl
theorem v_op1 {f : D → Option PV} {a : M D} : mOp1 f a e s = (a e s).thn (pv1 f) := rfl
theorem v_opN {f : List D → Option PV} {m : M (List D)} : mOpN f m e s = (m e s).thn (pvN f) := rfl
theorem v_pv2 {f : D → D → Option PV} {x y : D} : pv2 f x y e s = pv (f (dr s x) (dr s y)) e s := rfl
theorem v_pv1 {f : D → Option PV} {x : D} : pv1 f x e s = pv (f (dr s x)) e s := rfl
theorem v_pvN {f : List D → Option PV} : pvN f ds e s = pv (f (drL s ds)) e s := rfl
theorem v_pvf : pv (some (.fro d)) e s = .ok (.fro d) e s := rfl
theorem v_pvn {o : OD} : pv (some (.new o)) e s = .ok (.new o) e s := rfl
theorem v_pvt : pv (some (.tup ds)) e s = .ok (.fro (.tup ds)) e s := rfl
theorem v_pI {j : Int} : pv (pI j) e s = .ok (.fro (.int j)) e s := rfl
theorem v_pB {b : Bool} : pv (pB b) e s = .ok (.fro (.bl b)) e s := rfl
theorem v_d1 : (PR.fro d).d = d := rfl
theorem v_d2 {o : OD} : (PR.new o).d = o.d := rfl
theorem v_od {xs : List D} : (OD.lst xs).d = .lst xs := rfl
theorem v_od2 {ks : List Key} {xs : List D} : (OD.dic ks xs).d = .dic ks xs := rfl
theorem r_int {j : Int} : dr s (.int j) = .int j := rfl
theorem r_bl {j : Bool} : dr s (.bl j) = .bl j := rfl
theorem r_non : dr s .non = .non := rfl
theorem r_str {x : Str} : dr s (.str x) = .str x := rfl
theorem r_lst {xs : List D} : dr s (.lst xs) = .lst xs := rfl
theorem r_tup {xs : List D} : dr s (.tup xs) = .tup xs := rfl
theorem r_fzl {xs : List D} : dr s (.fzl xs) = .fzl xs := rfl
theorem r_rep : dr s (.rep d) = .rep d := rfl
theorem r_dic {ks : List Key} {xs : List D} : dr s (.dic ks xs) = .dic ks xs := rfl
theorem r_ref {n : Nat} {xs : List D} (h : s[n]? = some xs) : dr s (.ref n) = .lst xs := by
  show (match s[n]? with | some xs => D.lst xs | none => .ref n) = _
  rw [h]
theorem r_nil : drL s [] = [] := rfl
theorem r_cons : drL s (d :: ds) = dr s d :: drL s ds := rfl
theorem v_seq {a b : SM} : sSeq a b e s = (a e s).thn (seqF b) := rfl
theorem v_seqn {b : SM} : seqF b .nx e s = b e s := rfl
theorem v_seqr {b : SM} : seqF b (.rt d) e s = .ok (.rt d) e s := rfl
theorem v_nil : sNil e s = .ok .nx e s := rfl
theorem v_sif {t : M Bool} {a b : SM} : sIf t a b e s = (t e s).thn fun k => if k then a else b := rfl
theorem v_mif {t : M Bool} {a b : M α} : mIf t a b e s = (t e s).thn fun k => if k then a else b := rfl
theorem v_ite {c : Prop} [Decidable c] {a b : M α} : (if c then a else b) e s = if c then a e s else b e s := by by_cases h : c <;> simp [h]
theorem v_sret {m : M D} : sRet m e s = (m e s).thn fun d => ret (.rt d) := rfl
theorem v_sretN : sRetN e s = .ok (.rt .non) e s := rfl
theorem v_set {m : M PR} : sSet i m e s = (m e s).thn (setM i) := rfl
theorem v_setM {p : PR} : setM i p e s = .ok .nx (e.set i (slOf p)) s := rfl
theorem v_sl1 : slOf (.fro d) = .val d := rfl
theorem v_sl2 {o : OD} : slOf (.new o) = .own o := rfl
theorem v_bl {m : M PR} : mBl m e s = (m e s).thn blP := rfl
theorem v_blP {b : Bool} : blP (.fro (.bl b)) e s = .ok b e s := rfl
theorem v_tru {m : M D} : mTru m e s = (m e s).thn truM := rfl
theorem v_truM : truM d e s = opt (truD (dr s d)) e s := rfl
theorem v_opt {a : α} : opt (some a) e s = .ok a e s := rfl
theorem v_chain {f g : D → D → Option PV} {a b c : M D} : mChain f g a b c e s = (a e s).thn fun x => bnd b fun y => bnd (pv2 f x y) (chainP g y c) := rfl
theorem v_chP {g : D → D → Option PV} {y : D} {m : M D} {b : Bool} : chainP g y m (.fro (.bl b)) e s = if b then (m e s).thn (pv2 g y) else .ok (.fro (.bl false)) e s := by cases b <;> rfl
theorem v_and {a b : M Bool} : mAnd a b e s = (a e s).thn fun k => if k then b else ret false := rfl
theorem v_or {a b : M Bool} : mOr a b e s = (a e s).thn fun k => if k then ret true else b := rfl
theorem v_not {a : M Bool} : mNot a e s = (a e s).thn fun k => ret !k := rfl
theorem v_eNot {m : M D} : eNotT m e s = (mTru m e s).thn fun k => ret (.bl !k) := rfl
theorem v_eAnd {a b : M D} : eAnd a b e s = (a e s).thn (andD b) := rfl
theorem v_andD {b : M D} {k : Bool} : andD b (.bl k) e s = if k then b e s else .ok (.bl false) e s := by cases k <;> rfl
theorem v_eOr {a b : M D} : eOr a b e s = (a e s).thn (orD b) := rfl
theorem v_orD {b : M D} {k : Bool} : orD b (.bl k) e s = if k then .ok (.bl true) e s else b e s := by cases k <;> rfl
theorem v_tup {m : M (List D)} : eTup m e s = (m e s).thn fun ds => if ds.length ≤ lim then ret (.tup ds) else noRes := rfl
theorem v_lst {m : M (List D)} : pLst m e s = (m e s).thn fun ds => if ds.length ≤ lim then ret (.new (.lst ds)) else noRes := rfl
theorem v_aNil : aNil e s = .ok [] e s := rfl
theorem v_aCons {m : M D} {t : M (List D)} : aCons m t e s = (m e s).thn fun d => bnd t fun ds => ret (d :: ds) := rfl
theorem v_lNil : lNil e s = .ok [] e s := rfl
theorem v_lCons {m : M PR} {t : M (List PR)} : lCons m t e s = (m e s).thn fun p => bnd t fun ps => ret (p :: ps) := rfl
theorem v_par {is : List Nat} {m : M (List PR)} : sPar is m e s = (m e s).thn (parM is) := rfl
theorem v_parM {is : List Nat} {ps : List PR} : parM is ps e s = if ps.length = is.length then .ok .nx (setE is ps e) s else .bad := rfl
theorem v_setE {is : List Nat} {p : PR} {ps : List PR} : setE (i :: is) (p :: ps) e = setE is ps (e.set i (slOf p)) := rfl
theorem v_setN : setE [] [] e = e := rfl
theorem v_oN : oNone e s = .ok none e s := rfl
theorem v_oP {m : M D} : oPart m e s = (m e s).thn partD := rfl
theorem v_part {j : Int} : partD (.int j) e s = .ok (some j) e s := rfl
theorem v_slc {m : M D} {lo hi : M (Option Int)} : mSl m lo hi e s = (m e s).thn fun d => bnd lo fun l => bnd hi fun h e s => pv (dSl l h (dr s d)) e s := rfl
theorem v_call {n : Nat} {fn : Fn} {m : M (List D)} : eCall n fn m e s = (m e s).thn (callM n fn) := rfl
theorem v_callM {n : Nat} {fn : Fn} {s' : Sto} (h : ds.length = n) (hf : fn ds s = .ok d s') : callM n fn ds e s = .ok d e s' := by unfold callM; rw [if_pos h, hf]
theorem v_callK {n kn : Nat} {fn : Fn} {perm : List Nat} {m : M (List D)} : eCallK n fn kn perm m e s = (m e s).thn (callK n fn kn perm) := rfl
theorem v_callKM {n kn : Nat} {fn : Fn} {perm : List Nat} (h : ds.length = kn) : callK n fn kn perm ds e s = callM n fn (pick perm ds) e s := if_pos h
theorem v_for {it : M (List D)} {tg : TgF} {B : SM} : sFor it tg B e s = (it e s).thn (forL tg B) := rfl
theorem v_seqI {m : M D} : iSeq m e s = (m e s).thn itM := rfl
theorem v_it1 : itM (.lst ds) e s = .ok ds e s := rfl
theorem v_it2 : itM (.fzl ds) e s = .ok ds e s := rfl
theorem v_it3 : itM (.tup ds) e s = .ok ds e s := rfl
theorem v_rng1 {m : M (List D)} : iRng1 m e s = (m e s).thn rng1M := rfl
theorem v_rng1M {j : Int} : rng1M [.int j] e s = if rngB j then .ok (rangeD 0 j.toNat) e s else .bad := by unfold rng1M; by_cases h : rngB j = true <;> simp [h, ret, noRes]
theorem v_rng2 {m : M (List D)} : iRng2 m e s = (m e s).thn rng2M := rfl
theorem v_rng2M {i j : Int} : rng2M [.int i, .int j] e s = if rngB i && rngB j then .ok (rangeD i (j - i).toNat) e s else .bad := by unfold rng2M; by_cases h : (rngB i && rngB j) = true <;> simp [h, ret, noRes]
theorem v_enu {m : M (List D)} : iEnu m e s = (m e s).thn enumM := rfl
theorem v_enuM : enumM [.lst ds] e s = .ok (enumD 0 ds) e s := rfl
theorem v_rv {m : M D} : iRv m e s = (m e s).thn revM := rfl
theorem v_rvM : revM (.lst ds) e s = .ok ds.reverse e s := rfl
theorem v_zp {m : M (List D)} : iZp m e s = (m e s).thn zipM := rfl
theorem v_zp1 {xs ys : List D} : zipM [.lst xs, .lst ys] e s = .ok (zipD xs ys) e s := rfl
theorem v_lc {it : M (List D)} {tg : TgF} {tst : M Bool} {elt : M D} {vs : List Nat} : pLc it tg tst elt vs e s = (it e s).thn (lcP tg tst elt vs) := rfl
theorem v_lcP {tg : TgF} {tst : M Bool} {elt : M D} {vs : List Nat} {ys : List D} {e' : En} {s' : Sto} (h1 : noOwn vs e = true) (h2 : ds.length ≤ lim) (h3 : lcL tg tst elt vs ds e s = .ok ys e' s') : lcP tg tst elt vs ds e s = .ok (.new (.lst ys)) e' s' := by
  unfold lcP
  rw [if_pos (by rw [h1, decide_eq_true h2]; rfl), h3]
theorem v_fn {n : Nat} {m : SM} {s' : Sto} {e' : En} (h : m (ini n ds) s = .ok (.rt d) e' s') : fnOf n m ds s = .ok d s' := by unfold fnOf; rw [h]
theorem v_lr1 {a : M D} : mLR1 a e s = (a e s).thn lr1 := rfl
theorem v_sti {mv mk : M D} : sStI i mv mk e s = (mv e s).thn fun d => bnd (hasV i) fun _ => bnd mk (stM i d) := rfl
theorem v_app {m : M D} : sApp i m e s = (ownL i e s).thn fun _ => bnd m (appM i) := rfl
theorem v_popR {m : M D} : ePopR m e s = (m e s).thn popR := rfl
theorem v_whl {T : M Bool} {B : SM} {n : Nat} : whl T B (n + 1) e s = (T e s).thn fun k => if k then fun e s => loopF (whl T B n) (B e s) else sNil := rfl
theorem v_while {T : M Bool} {B : SM} : sWhile T B e s = whl T B 1000000 e s := rfl
/-- a comprehension whose parts leave the state -/
theorem lc_map {tg : TgF} {tst : M Bool} {elt : M D} {vs : List Nat} {h : D → List D} {e0 : En} {s : Sto} (hw : ∀ e3, unw e0 vs e3 = e0 → True) :
    ∀ {ds : List D}, (∀ x ∈ ds, ∃ e1, tg x (wipeE e0 vs) = some e1 ∧
      ((∃ e2, tst e1 s = .ok false e2 s ∧ h x = [] ∧ unw e0 vs e2 = e0) ∨ (∃ e2 y e3, tst e1 s = .ok true e2 s ∧ elt e2 s = .ok y e3 s ∧ h x = [y] ∧ unw e0 vs e3 = e0))) → lcL tg tst elt vs ds e0 s = .ok (ds.flatMap h) e0 s
  | [], _ => rfl
  | x :: r, H => by
    have ih := lc_map hw (ds := r) fun y m => H y (List.mem_cons_of_mem _ m)
    obtain ⟨e1, h1, h2⟩ := H x (List.mem_cons_self ..)
    rw [List.flatMap_cons]
    unfold lcL
    rw [h1]
    try dsimp only
    rcases h2 with ⟨e2, h3, h4, h5⟩ | ⟨e2, y, e3, h3, h4, h5, h6⟩
    · rw [h3]
      try dsimp only
      rw [h5, h4]
      exact ih
    · rw [h3]
      try dsimp only
      rw [h4]
      try dsimp only
      rw [h6, ih]
      try dsimp only
      rw [h5]
      rfl
end
/-- the small operations on numbers -/
theorem d_sub {i j : Int} : dSub (.int i) (.int j) = pI (i - j) := rfl
theorem d_add {i j : Int} : dAdd (.int i) (.int j) = pI (i + j) := rfl
theorem d_neg {i : Int} : dNeg (.int i) = pI (-i) := rfl
theorem d_mul {i j : Int} (h : mulOk i j = true) : dMul (.int i) (.int j) = pI (i * j) := if_pos h
theorem d_mod {i j : Int} (h : j ≠ 0) : dMod (.int i) (.int j) = pI (i.fmod j) := if_pos h
theorem d_div {i j : Int} (h : divOk j = true) : dDiv (.int i) (.int j) = pI (i / j) := if_pos h
theorem d_pow {i j : Int} (h : 0 ≤ j ∧ j ≤ 100000 ∧ smallI i = true) : dPow (.int i) (.int j) = pI (i ^ j.toNat) := if_pos h
theorem d_eq {i j : Int} : dEq (.int i) (.int j) = pB (decide (i = j)) := rfl
theorem d_ne {i j : Int} : dNe (.int i) (.int j) = pB (!decide (i = j)) := rfl
theorem d_lt {i j : Int} : dLt (.int i) (.int j) = pB (decide (i < j)) := rfl
theorem d_le {i j : Int} : dLe (.int i) (.int j) = pB (decide (i ≤ j)) := rfl
theorem d_gt {i j : Int} : dGt (.int i) (.int j) = pB (decide (j < i)) := rfl
theorem d_ge {i j : Int} : dGe (.int i) (.int j) = pB (decide (j ≤ i)) := rfl
theorem d_int {i : Int} : dInt [.int i] = pI i := rfl
theorem d_abs {i : Int} : dAbs [.int i] = pI (if i < 0 then -i else i) := rfl
theorem d_len {xs : List D} : dLen [.lst xs] = pI xs.length := rfl
theorem d_lenT {xs : List D} : dLen [.tup xs] = pI xs.length := rfl
theorem d_isN {a : D} : dIs a .non = pB (isNon a) := by unfold dIs; cases a <;> rfl
theorem d_isNN {a : D} : dIsNot a .non = pB (!isNon a) := by unfold dIsNot; cases a <;> rfl
theorem t_bl {b : Bool} : truD (.bl b) = some b := rfl
end PD
/-! PD, part 21: equal data show and compare alike -/
namespace PD
open PySem PySem.Spec PyProof.Rows L2
def atomD : D → Bool
  | .non => true
  | .bl _ => true
  | .int i => shI i
  | _ => false
def lv : Nat → D → Bool
  | 0, d => atomD d
  | n + 1, .lst xs => xs.all (lv n) && decide (xs.length ≤ 80)
  | n + 1, .tup xs => xs.all (lv n) && decide (xs.length ≤ 80)
  | _ + 1, d => atomD d
def lvB : Nat → Nat
  | 0 => 0
  | n + 1 => 80 * (lvB n + 1)
/-- what one wants of shown and compared data -/
structure Nice (n : Nat) (d : D) (p : PyData) : Prop where
  py : toPy d = some p
  lay : p.canLay0 = true
  dep : p.depth ≤ n
  bul : p.bulk ≤ lvB n
  sh : shD d = true
  eqv : PyData.eqv p p = true
  pl : plain d = true
structure NiceL (n : Nat) (ds : List D) (ps : List PyData) : Prop where
  py : toPyL ds = some ps
  lay : PyData.canLayAll0 ps = true
  dep : PyData.depthAll ps ≤ n
  bul : PyData.bulkAll ps ≤ ds.length * (lvB n + 1)
  sh : shDL ds = true
  eqv : PyData.eqvAll ps ps = true
  pl : plainL ds = true
theorem atom_nice {n : Nat} {d : D} (h : atomD d = true) : ∃ p, Nice n d p := by
  cases d with
  | non => exact ⟨_, rfl, by simp [PyData.canLay0], by simp [PyData.depth], by simp [PyData.bulk], by simp [shD], by simp [PyData.eqv], by simp [plain]⟩
  | bl b => exact ⟨_, rfl, by simp [PyData.canLay0], by simp [PyData.depth], by simp [PyData.bulk], by simp [shD], by simp [PyData.eqv], by simp [plain]⟩
  | int i => exact ⟨_, rfl, by simp [PyData.canLay0], by simp [PyData.depth], by simp [PyData.bulk], by rw [shD]; exact h, by simp [PyData.eqv], by simp [plain]⟩
  | _ => cases h
theorem niceL {n : Nat} (H : ∀ d, lv n d = true → ∃ p, Nice n d p) : ∀ xs : List D, xs.all (lv n) = true → ∃ ps, NiceL n xs ps
  | [], _ => ⟨[], by simp [toPyL], by simp [PyData.canLayAll0], by simp [PyData.depthAll], by simp [PyData.bulkAll], by simp [shDL], by simp [PyData.eqvAll], by simp [plainL]⟩
  | x :: r, h => by
    rw [List.all_cons, Bool.and_eq_true] at h
    obtain ⟨p, a⟩ := H x h.1
    obtain ⟨ps, b⟩ := niceL H r h.2
    refine ⟨p :: ps, by simp [toPyL, a.py, b.py], by simp [PyData.canLayAll0, a.lay, b.lay], ?_, ?_, by simp [shDL, a.sh, b.sh], by simp [PyData.eqvAll, a.eqv, b.eqv], by simp [plainL, a.pl, b.pl]⟩
    · rw [PyData.depthAll]; have := a.dep; have := b.dep; omega
    · rw [PyData.bulkAll, List.length_cons, Nat.add_mul, Nat.one_mul]
      have := a.bul
      have := b.bul
      omega
theorem lv_nice : ∀ (n : Nat) (d : D), lv n d = true → ∃ p, Nice n d p
  | 0, d, h => atom_nice h
  | n + 1, d, h => by
    cases d with
    | lst xs =>
      rw [lv, Bool.and_eq_true] at h
      obtain ⟨ps, a⟩ := niceL (lv_nice n) xs h.1
      have hl : xs.length ≤ 80 := of_decide_eq_true h.2
      refine ⟨.list ps, by simp [toPy, a.py], by simp [PyData.canLay0, a.lay], ?_, ?_, by simp [shD, a.sh], by simp [PyData.eqv, a.eqv], by simp [plain, a.pl]⟩
      · rw [PyData.depth]; have := a.dep; omega
      · rw [PyData.bulk]
        exact Nat.le_trans a.bul (Nat.mul_le_mul_right _ hl)
    | tup xs =>
      rw [lv, Bool.and_eq_true] at h
      obtain ⟨ps, a⟩ := niceL (lv_nice n) xs h.1
      have hl : xs.length ≤ 80 := of_decide_eq_true h.2
      refine ⟨.tuple ps, by simp [toPy, a.py], by simp [PyData.canLay0, a.lay], ?_, ?_, by simp [shD, a.sh], by simp [PyData.eqv, a.eqv], by simp [plain, a.pl]⟩
      · rw [PyData.depth]; have := a.dep; omega
      · rw [PyData.bulk]
        exact Nat.le_trans a.bul (Nat.mul_le_mul_right _ hl)
    | non => exact atom_nice h
    | bl b => exact atom_nice h
    | int i => exact atom_nice h
    | str x => cases h
    | dic _ _ => cases h
    | ref _ => cases h
    | rep _ => cases h
    | fzl _ => cases h
theorem repr_ok {d : D} (h : lv 2 d = true) : dRepr [d] = some (.fro (.rep d)) := by
  obtain ⟨p, a⟩ := lv_nice 2 d h
  have hb : p.bulk ≤ 8000 := Nat.le_trans a.bul (by decide)
  have hd : p.depth ≤ 55 := Nat.le_trans a.dep (by decide)
  show (match toPy d with | some p => if repOk d p then some (PV.fro (.rep d)) else none | none => none) = _
  rw [a.py]
  show (if repOk d p then some (PV.fro (.rep d)) else none) = _
  rw [if_pos]
  unfold repOk
  rw [a.sh, decide_eq_true hb, decide_eq_true hd]
  rfl
theorem nice_eq {f : Bool → Bool} {d : D} (h : lv 2 d = true) : eqGen f d d = pB (f true) := by
  obtain ⟨p, a⟩ := lv_nice 2 d h
  unfold eqGen
  rw [a.py]
  have hs : SeqAt.shaped p = true := by
    unfold SeqAt.shaped
    rw [a.lay, decide_eq_true (Nat.le_trans a.dep (by decide))]
    rfl
  show (if okEq p p then pB (f (PyData.eqv p p)) else none) = _
  rw [if_pos (by unfold okEq; rw [hs]; rfl), a.eqv]
theorem eq_ok {d : D} (h : lv 2 d = true) : dEq d d = pB true := by
  cases d with
  | int i => show pB (decide (i = i)) = _; rw [decide_eq_true rfl]
  | str x => cases h
  | rep _ => cases h
  | non => exact nice_eq h
  | bl b => exact nice_eq h
  | lst xs => exact nice_eq h
  | tup xs => exact nice_eq h
  | fzl xs => cases h
  | dic _ _ => cases h
  | ref _ => cases h
theorem rep_eq {d : D} (h : lv 2 d = true) : dEq (.rep d) (.rep d) = pB true := by
  obtain ⟨p, a⟩ := lv_nice 2 d h
  show (if beqD d d then pB true else none) = _
  rw [if_pos (beqD_refl a.pl)]
theorem ints_py : ∀ ns : List Int, toPyL (ns.map D.int) = some (ns.map PyData.int) ∧ PyData.canLayAll0 (ns.map PyData.int) = true ∧ PyData.depthAll (ns.map PyData.int) = 0
  | [] => ⟨by simp [toPyL], by simp [PyData.canLayAll0], by simp [PyData.depthAll]⟩
  | n :: r => by
    obtain ⟨a, b, c⟩ := ints_py r
    exact ⟨by simp [toPyL, toPy, a], by simp [PyData.canLayAll0, PyData.canLay0, b], by simp [PyData.depthAll, PyData.depth, c]⟩
theorem ne_nil (ns : List Int) : dNe (.lst (ns.map D.int)) (.lst []) = pB (!ns.isEmpty) := by
  show eqGen not (.lst (ns.map D.int)) (.lst []) = _
  obtain ⟨a, b, c⟩ := ints_py ns
  have e1 : toPy (.lst (ns.map D.int)) = some (.list (ns.map PyData.int)) := by simp [toPy, a]
  have e2 : toPy (.lst []) = some (.list []) := by simp [toPy, toPyL]
  unfold eqGen
  rw [e1, e2]
  have hs : okEq (.list (ns.map PyData.int)) (.list []) = true := by
    unfold okEq SeqAt.shaped
    simp [PyData.canLay0, PyData.canLayAll0, PyData.depth, PyData.depthAll, b, c]
  show (if okEq (.list (ns.map PyData.int)) (.list []) then pB (not (PyData.eqv (.list (ns.map PyData.int)) (.list []))) else none) = _
  rw [if_pos hs]
  cases ns <;> simp [PyData.eqv, PyData.eqvAll]
theorem ca0 {fn : Fn} {e : En} {s s' : Sto} {d : D} (hf : fn [] s = .ok d s') : callM 0 fn [] e s = .ok d e s' := v_callM rfl hf
theorem ca1 {fn : Fn} {e : En} {s s' : Sto} {d : D} {a0 : D} (hf : fn [a0] s = .ok d s') : callM 1 fn [a0] e s = .ok d e s' := v_callM rfl hf
theorem ca2 {fn : Fn} {e : En} {s s' : Sto} {d : D} {a0 a1 : D} (hf : fn [a0, a1] s = .ok d s') : callM 2 fn [a0, a1] e s = .ok d e s' := v_callM rfl hf
theorem ca3 {fn : Fn} {e : En} {s s' : Sto} {d : D} {a0 a1 a2 : D} (hf : fn [a0, a1, a2] s = .ok d s') : callM 3 fn [a0, a1, a2] e s = .ok d e s' := v_callM rfl hf
theorem ca4 {fn : Fn} {e : En} {s s' : Sto} {d : D} {a0 a1 a2 a3 : D} (hf : fn [a0, a1, a2, a3] s = .ok d s') : callM 4 fn [a0, a1, a2, a3] e s = .ok d e s' := v_callM rfl hf
theorem ca5 {fn : Fn} {e : En} {s s' : Sto} {d : D} {a0 a1 a2 a3 a4 : D} (hf : fn [a0, a1, a2, a3, a4] s = .ok d s') : callM 5 fn [a0, a1, a2, a3, a4] e s = .ok d e s' := v_callM rfl hf
theorem ca6 {fn : Fn} {e : En} {s s' : Sto} {d : D} {a0 a1 a2 a3 a4 a5 : D} (hf : fn [a0, a1, a2, a3, a4, a5] s = .ok d s') : callM 6 fn [a0, a1, a2, a3, a4, a5] e s = .ok d e s' := v_callM rfl hf
theorem k1 {n : Nat} {fn : Fn} {perm : List Nat} {e : En} {s : Sto} {a : D} : callK n fn 1 perm [a] e s = callM n fn (pick perm [a]) e s := v_callKM rfl
theorem k2 {n : Nat} {fn : Fn} {perm : List Nat} {e : En} {s : Sto} {a b : D} : callK n fn 2 perm [a, b] e s = callM n fn (pick perm [a, b]) e s := v_callKM rfl
theorem k3 {n : Nat} {fn : Fn} {perm : List Nat} {e : En} {s : Sto} {a b c : D} : callK n fn 3 perm [a, b, c] e s = callM n fn (pick perm [a, b, c]) e s := v_callKM rfl
theorem k4 {n : Nat} {fn : Fn} {perm : List Nat} {e : En} {s : Sto} {a b c d : D} : callK n fn 4 perm [a, b, c, d] e s = callM n fn (pick perm [a, b, c, d]) e s := v_callKM rfl
theorem p0 {α : Type} {l : List α} : pick [] l = [] := rfl
theorem p1 {α : Type} {l : List α} {i : Nat} {is : List Nat} {a : α} (h : l[i]? = some a) : pick (i :: is) l = a :: pick is l := List.filterMap_cons_some h
end PD
/-! PD, part 22: loops and comprehensions by invariants -/
namespace PD
open PySem PySem.Spec PyProof.Rows L2
theorem set_self {e : En} {i : Nat} {sl x : Sl} (h : e[i]? = some sl) : (e.set i x).set i (e[i]?.getD .un) = e := by
  rw [h, List.set_set]
  apply List.ext_getElem?
  intro j
  by_cases q : i = j
  · subst q
    rw [List.getElem?_set_self (lt_of_get h), h]
    rfl
  · rw [List.getElem?_set_ne q]
section
variable {tst : M Bool} {elt : M D} {i : Nat} {e0 : En} {s : Sto} {sl : Sl}
theorem unw1 (h : e0[i]? = some sl) {x : Sl} : unw e0 [i] (e0.set i x) = e0 := set_self h
theorem wipe1 {x : Sl} : (wipeE e0 [i]).set i x = e0.set i x := by
  show (e0.set i .un).set i x = _
  rw [List.set_set]
/-- one name, a test, nothing else moves -/
theorem lcF (h : e0[i]? = some sl) {p : D → Bool} {f : D → D} : ∀ {ds : List D}, (∀ x ∈ ds, tst (e0.set i (.val x)) s = .ok (p x) (e0.set i (.val x)) s ∧ (p x = true → elt (e0.set i (.val x)) s = .ok (f x) (e0.set i (.val x)) s)) →
    lcL (tgN i) tst elt [i] ds e0 s = .ok ((ds.filter p).map f) e0 s
  | [], _ => rfl
  | x :: r, H => by
    have ih := lcF h (ds := r) fun y m => H y (List.mem_cons_of_mem _ m)
    obtain ⟨h1, h2⟩ := H x (List.mem_cons_self ..)
    have ht : tgN i x (wipeE e0 [i]) = some (e0.set i (.val x)) := by
      show some ((wipeE e0 [i]).set i (.val x)) = _
      rw [wipe1]
    cases hp : p x with
    | true =>
      rw [hp] at h1
      rw [List.filter_cons_of_pos hp, List.map_cons]
      unfold lcL
      rw [ht]
      try dsimp only
      rw [h1]
      try dsimp only
      rw [h2 hp]
      try dsimp only
      rw [unw1 h, ih]
    | false =>
      rw [hp] at h1
      rw [List.filter_cons_of_neg (by rw [hp]; exact Bool.false_ne_true)]
      unfold lcL
      rw [ht]
      try dsimp only
      rw [h1]
      try dsimp only
      rw [unw1 h, ih]
theorem lc1 (h : e0[i]? = some sl) {f : D → D} {ds : List D} (H : ∀ x ∈ ds, elt (e0.set i (.val x)) s = .ok (f x) (e0.set i (.val x)) s) : lcL (tgN i) tstT elt [i] ds e0 s = .ok (ds.map f) e0 s := by
  have := lcF (tst := tstT) (p := fun _ => true) h (f := f) (ds := ds) fun x m => ⟨rfl, fun _ => H x m⟩
  rw [this, List.filter_eq_self.mpr fun _ _ => rfl]
inductive All2 {α β : Type} (R : α → β → Prop) : List α → List β → Prop
  | nil : All2 R [] []
  | cons {a b as bs} : R a b → All2 R as bs → All2 R (a :: as) (b :: bs)
/-- one name, the state moves -/
theorem lcS (h : e0[i]? = some sl) {J : Sto → Prop} {R : D → D → Prop} : ∀ {ds : List D} {s : Sto}, J s → (∀ x ∈ ds, ∀ s, J s → ∃ y s', elt (e0.set i (.val x)) s = .ok y (e0.set i (.val x)) s' ∧ J s' ∧ R x y) →
    ∃ ys s', lcL (tgN i) tstT elt [i] ds e0 s = .ok ys e0 s' ∧ J s' ∧ All2 R ds ys
  | [], s, j, _ => ⟨[], s, rfl, j, .nil⟩
  | x :: r, s, j, H => by
    obtain ⟨y, s1, h1, j1, hr⟩ := H x (List.mem_cons_self ..) s j
    obtain ⟨ys, s2, h2, j2, ha⟩ := lcS h j1 (ds := r) fun y m => H y (List.mem_cons_of_mem _ m)
    have ht : tgN i x (wipeE e0 [i]) = some (e0.set i (.val x)) := by
      show some ((wipeE e0 [i]).set i (.val x)) = _
      rw [wipe1]
    refine ⟨y :: ys, s2, ?_, j2, .cons hr ha⟩
    unfold lcL
    rw [ht]
    try dsimp only
    rw [show tstT (e0.set i (.val x)) s = .ok true (e0.set i (.val x)) s from rfl]
    try dsimp only
    rw [h1]
    try dsimp only
    rw [unw1 h, h2]
end
theorem forL_ok {tg : TgF} {B : SM} (J : List D → En → Sto → Prop) (H : ∀ x r e s, J (x :: r) e s → ∃ e1 e2 s2, tg x e = some e1 ∧ B e1 s = .ok .nx e2 s2 ∧ J r e2 s2) :
    ∀ {ds : List D} {e : En} {s : Sto}, J ds e s → ∃ e' s', forL tg B ds e s = .ok .nx e' s' ∧ J [] e' s'
  | [], e, s, j => ⟨e, s, rfl, j⟩
  | x :: r, e, s, j => by
    obtain ⟨e1, e2, s2, h1, h2, j2⟩ := H x r e s j
    obtain ⟨e', s', h3, j3⟩ := forL_ok J H j2
    refine ⟨e', s', ?_, j3⟩
    unfold forL
    rw [h1]
    try dsimp only
    rw [h2]
    exact h3
theorem mem_rangeD {lo : Int} {n : Nat} {x : D} (h : x ∈ rangeD lo n) : ∃ k : Int, x = .int k ∧ lo ≤ k ∧ k < lo + n := by
  unfold rangeD at h
  obtain ⟨j, hj, rfl⟩ := List.mem_map.mp h
  rw [List.mem_range] at hj
  exact ⟨_, rfl, by omega, by omega⟩
theorem lv_of : ∀ {n : Nat} {d : D}, atomD d = true → lv n d = true
  | 0, _, h => h
  | n + 1, d, h => by cases d <;> first | exact h | cases h
theorem lv_l {n : Nat} {xs : List D} (h : ∀ x ∈ xs, lv n x = true) (hl : xs.length ≤ 80) : lv (n + 1) (.lst xs) = true := by
  rw [lv, List.all_eq_true.mpr h, decide_eq_true hl]
  rfl
theorem lv_t {n : Nat} {xs : List D} (h : ∀ x ∈ xs, lv n x = true) (hl : xs.length ≤ 80) : lv (n + 1) (.tup xs) = true := by
  rw [lv, List.all_eq_true.mpr h, decide_eq_true hl]
  rfl
theorem atom_int {i : Int} (h : shI i = true) : atomD (.int i) = true := h
end PD
namespace R83
open PySem PySem.Spec PyProof.Rows L2 PD
def topS (i : Nat) : Stmt := PySem.Challenge.pw_roundrows_k83_whole_circles_and_roots.main.body.getD i (.Pass ⟨0, 0, 0, 0⟩)
/-! square_sign -/
abbrev s_square_sign : Stmt := topS 1
def N_square_sign : List Str := ["q", "number", "rest", "x"]
def m_square_sign : SM := (sSeq (sSet 2 (mOp2 dMod (bVar 1) (bVar 0))) (sSeq (sIf (mBl (mOp2 dEq (bVar 2) (ret (D.int 0)))) (sSeq (sRet (ret (D.int 0))) sNil) sNil) (sSeq (sRet (mIf (mTru (fz (mOpN dAny (aCons (fz (pLc (iRng2 (aCons (ret (D.int 1)) (aCons (fz (mOp2 dAdd (fz (mOp2 dDiv (bVar 0) (ret (D.int 2)))) (ret (D.int 1)))) aNil))) (tgN 3) tstT (fz (mOp2 dEq (fz (mOp2 dMod (fz (mOp2 dMul (bVar 3) (bVar 3))) (bVar 0))) (bVar 2))) [3])) aNil)))) (ret (D.int 1)) (fz (mOp1 dNeg (ret (D.int 1)))))) sNil)))
def fn_square_sign : Fn := fnOf 4 m_square_sign
def g_square_sign : Gi := ⟨"square_sign", ["q", "number"], fn_square_sign, []⟩
/-! formula_rests -/
abbrev s_formula_rests : Stmt := topS 3
def N_formula_rests : List Str := ["q", "a", "b", "c", "x"]
def m_formula_rests : SM := (sSeq (sRet (fz (pLc (iRng1 (aCons (eVar 0) aNil)) (tgN 4) tstT (fz (mOp2 dMod (fz (mOp2 dAdd (fz (mOp2 dAdd (fz (mOp2 dMul (fz (mOp2 dMul (bVar 1) (bVar 4))) (bVar 4))) (fz (mOp2 dMul (bVar 2) (bVar 4))))) (bVar 3))) (bVar 0))) [4]))) sNil)
def fn_formula_rests : Fn := fnOf 5 m_formula_rests
def g_formula_rests : Gi := ⟨"formula_rests", ["q", "a", "b", "c"], fn_formula_rests, []⟩
/-! circle_count -/
abbrev s_circle_count : Stmt := topS 4
def N_circle_count : List Str := ["q", "number", "squares", "total", "x", "own"]
def m_circle_count : SM := (sSeq (sPar [2, 3] (lCons (pLc (iRng1 (aCons (eVar 0) aNil)) (tgN 4) tstT (fz (mOp2 dMod (fz (mOp2 dMul (bVar 4) (bVar 4))) (bVar 0))) [4]) (lCons (up (ret (D.int 0))) lNil))) (sSeq (sFor (iSeq (eVar 2)) (tgN 5) (sSeq (sSet 3 (mOp2 dAdd (bVar 3) (fz (mCnt (bVar 2) (fz (mOp2 dMod (fz (mOp2 dSub (bVar 1) (bVar 5))) (bVar 0))))))) sNil)) (sSeq (sRet (eVar 3)) sNil)))
def fn_circle_count : Fn := fnOf 6 m_circle_count
def g_circle_count : Gi := ⟨"circle_count", ["q", "number"], fn_circle_count, [(["q", "number"], [0, 1])]⟩
/-! formula_roots -/
abbrev s_formula_roots : Stmt := topS 5
def N_formula_roots : List Str := ["q", "a", "b", "c"]
def m_formula_roots : SM := (sSeq (sRet (fz (mCnt (eCall 4 fn_formula_rests (aCons (eVar 0) (aCons (eVar 1) (aCons (eVar 2) (aCons (eVar 3) aNil))))) (ret (D.int 0))))) sNil)
def fn_formula_roots : Fn := fnOf 4 m_formula_roots
def g_formula_roots : Gi := ⟨"formula_roots", ["q", "a", "b", "c"], fn_formula_roots, [(["c", "b", "a", "q"], [3, 2, 1, 0])]⟩
/-! _law_own_bag -/
abbrev s__law_own_bag : Stmt := topS 7
def N__law_own_bag : List Str := ["script", "cells", "cell", "mixed"]
def m__law_own_bag : SM := (sSeq (sSet 1 (pLc (iSeq (fz (mSl (bVar 0) oNone (oPart (ret (D.int 63)))))) (tgN 2) tstT (fz (mOpN dAbs (aCons (fz (mOpN dInt (aCons (bVar 2) aNil))) aNil))) [2])) (sSeq (sSet 3 (mOp2 dAdd (ret (D.int 2468)) (fz (mOpN dLen (aCons (bVar 1) aNil))))) (sSeq (sFor (iSeq (eVar 1)) (tgN 2) (sSeq (sSet 3 (mOp2 dMod (fz (mOpN dInt (aCons (fz (mOp2 dAdd (fz (mOp2 dAdd (fz (mOp2 dMul (bVar 3) (ret (D.int 48271)))) (fz (mOp2 dMod (bVar 2) (ret (D.int 2147483629)))))) (ret (D.int 7)))) aNil))) (ret (D.int 2147483647)))) sNil)) (sSeq (sRet (eBag (fz (mOpN dList (aCons (bVar 1) aNil))) (eVar 3))) sNil))))
def fn__law_own_bag : Fn := fnOf 4 m__law_own_bag
def g__law_own_bag : Gi := ⟨"_law_own_bag", ["script"], fn__law_own_bag, []⟩
/-! _law_draw -/
abbrev s__law_draw : Stmt := topS 8
def N__law_draw : List Str := ["bag", "below", "cell", "found"]
def m__law_draw : SM := (sSeq (sWhile (mAnd (mBl (mOp2 dEq (fz (mOp2 dIx (bVar 0) (ret (D.int 1)))) (ret (D.int 0)))) (mBl (mOp2 dNe (fz (mOp2 dIx (bVar 0) (ret (D.int 0)))) (fz (pLst aNil))))) (sSeq (sSet 2 (up (ePopR (fz (mOp2 dIx (bVar 0) (ret (D.int 0))))))) (sSeq (sStI 0 (mIf (mBl (mOp2 dGt (bVar 2) (fz (mOp2 dPow (ret (D.int 10)) (ret (D.int 9)))))) (eVar 2) (ret (D.int 0))) (ret (D.int 1))) sNil))) (sSeq (sIf (mBl (mOp2 dGt (fz (mOp2 dIx (bVar 0) (ret (D.int 1)))) (ret (D.int 0)))) (sSeq (sSet 3 (mOp2 dMod (fz (mOpN dInt (aCons (fz (mOp2 dIx (bVar 0) (ret (D.int 1)))) aNil))) (bVar 1))) (sSeq (sStI 0 (fz (mOp2 dDiv (fz (mOp2 dIx (bVar 0) (ret (D.int 1)))) (bVar 1))) (ret (D.int 1))) (sSeq (sRet (eVar 3)) sNil))) sNil) (sSeq (sStI 0 (fz (mOp2 dMod (fz (mOpN dInt (aCons (fz (mOp2 dAdd (fz (mOp2 dMul (fz (mOp2 dIx (bVar 0) (ret (D.int 2)))) (ret (D.int 48271)))) (ret (D.int 11)))) aNil))) (ret (D.int 2147483647)))) (ret (D.int 2))) (sSeq (sRet (fz (mOp2 dMod (fz (mOp2 dDiv (fz (mOp2 dMod (fz (mOpN dInt (aCons (fz (mOp2 dMul (fz (mOp2 dIx (bVar 0) (ret (D.int 2)))) (fz (mOp2 dIx (bVar 0) (ret (D.int 2)))))) aNil))) (ret (D.int 2147483629)))) (ret (D.int 7)))) (bVar 1)))) sNil))))
def fn__law_draw : Fn := fnOf 4 m__law_draw
def g__law_draw : Gi := ⟨"_law_draw", ["bag", "below"], fn__law_draw, []⟩
/-! _law_pick -/
abbrev s__law_pick : Stmt := topS 9
def N__law_pick : List Str := ["bag", "some"]
def m__law_pick : SM := (sSeq (sRet (fz (mOp2 dIx (bVar 1) (eCall 2 fn__law_draw (aCons (eVar 0) (aCons (fz (mOpN dLen (aCons (bVar 1) aNil))) aNil)))))) sNil)
def fn__law_pick : Fn := fnOf 2 m__law_pick
def g__law_pick : Gi := ⟨"_law_pick", ["bag", "some"], fn__law_pick, []⟩
/-! _law_primes -/
abbrev s__law_primes : Stmt := topS 10
def N__law_primes : List Str := []
def m__law_primes : SM := (sSeq (sRet (fz (pLst (aCons (ret (D.int 3)) (aCons (ret (D.int 5)) (aCons (ret (D.int 7)) (aCons (ret (D.int 11)) (aCons (ret (D.int 13)) (aCons (ret (D.int 17)) (aCons (ret (D.int 19)) (aCons (ret (D.int 23)) (aCons (ret (D.int 29)) (aCons (ret (D.int 31)) (aCons (ret (D.int 37)) (aCons (ret (D.int 41)) (aCons (ret (D.int 43)) (aCons (ret (D.int 47)) (aCons (ret (D.int 53)) (aCons (ret (D.int 59)) (aCons (ret (D.int 61)) aNil)))))))))))))))))))) sNil)
def fn__law_primes : Fn := fnOf 0 m__law_primes
def g__law_primes : Gi := ⟨"_law_primes", [], fn__law_primes, []⟩
/-! _law_some_primes -/
abbrev s__law_some_primes : Stmt := topS 11
def N__law_some_primes : List Str := ["bag", "some", "many", "first", "step", "k"]
def m__law_some_primes : SM := (sSeq (sPar [3, 4] (lCons (up (eCall 2 fn__law_draw (aCons (eVar 0) (aCons (fz (mOpN dLen (aCons (bVar 1) aNil))) aNil)))) (lCons (mOp2 dAdd (ret (D.int 1)) (eCall 2 fn__law_draw (aCons (eVar 0) (aCons (fz (mOp2 dSub (fz (mOpN dLen (aCons (bVar 1) aNil))) (ret (D.int 1)))) aNil)))) lNil))) (sSeq (sRet (fz (pLc (iRng1 (aCons (eVar 2) aNil)) (tgN 5) tstT (fz (mOp2 dIx (bVar 1) (fz (mOp2 dMod (fz (mOpN dInt (aCons (fz (mOp2 dAdd (bVar 3) (fz (mOp2 dMul (bVar 4) (bVar 5))))) aNil))) (fz (mOpN dLen (aCons (bVar 1) aNil))))))) [5]))) sNil))
def fn__law_some_primes : Fn := fnOf 6 m__law_some_primes
def g__law_some_primes : Gi := ⟨"_law_some_primes", ["bag", "some", "many"], fn__law_some_primes, []⟩
/-! _law_far -/
abbrev s__law_far : Stmt := topS 12
def N__law_far : List Str := ["bag", "high", "middle"]
def m__law_far : SM := (sSeq (sPar [1, 2] (lCons (up (eCall 2 fn__law_draw (aCons (eVar 0) (aCons (fz (mOp2 dPow (ret (D.int 10)) (ret (D.int 10)))) aNil)))) (lCons (up (eCall 2 fn__law_draw (aCons (eVar 0) (aCons (fz (mOp2 dPow (ret (D.int 10)) (ret (D.int 10)))) aNil)))) lNil))) (sSeq (sRet (fz (mOp2 dAdd (fz (mOp2 dMul (fz (mOp2 dAdd (fz (mOp2 dMul (bVar 1) (fz (mOp2 dPow (ret (D.int 10)) (ret (D.int 10)))))) (bVar 2))) (fz (mOp2 dPow (ret (D.int 10)) (ret (D.int 10)))))) (eCall 2 fn__law_draw (aCons (eVar 0) (aCons (fz (mOp2 dPow (ret (D.int 10)) (ret (D.int 10)))) aNil)))))) sNil))
def fn__law_far : Fn := fnOf 3 m__law_far
def g__law_far : Gi := ⟨"_law_far", ["bag"], fn__law_far, []⟩
/-! _law_great -/
abbrev s__law_great : Stmt := topS 13
def N__law_great : List Str := ["bag", "way", "some"]
def m__law_great : SM := (sSeq (sSet 1 (up (eCall 2 fn__law_draw (aCons (eVar 0) (aCons (ret (D.int 4)) aNil))))) (sSeq (sIf (mBl (mOp2 dEq (bVar 1) (ret (D.int 0)))) (sSeq (sSet 2 (up (eCall 2 fn__law_draw (aCons (eVar 0) (aCons (ret (D.int 200)) aNil))))) sNil) (sSeq (sIf (mBl (mOp2 dEq (bVar 1) (ret (D.int 1)))) (sSeq (sSet 2 (mOp2 dSub (fz (mOp2 dPow (ret (D.int 10)) (ret (D.int 30)))) (eCall 2 fn__law_draw (aCons (eVar 0) (aCons (ret (D.int 130)) aNil))))) sNil) (sSeq (sIf (mBl (mOp2 dEq (bVar 1) (ret (D.int 2)))) (sSeq (sSet 2 (up (eCall 2 fn__law_draw (aCons (eVar 0) (aCons (fz (mOp2 dPow (ret (D.int 10)) (ret (D.int 9)))) aNil))))) sNil) (sSeq (sSet 2 (up (eCall 1 fn__law_far (aCons (eVar 0) aNil)))) sNil)) sNil)) sNil)) (sSeq (sRet (mIf (mBl (mOp2 dEq (eCall 2 fn__law_draw (aCons (eVar 0) (aCons (ret (D.int 2)) aNil))) (ret (D.int 0)))) (eVar 2) (fz (mOp1 dNeg (bVar 2))))) sNil)))
def fn__law_great : Fn := fnOf 3 m__law_great
def g__law_great : Gi := ⟨"_law_great", ["bag"], fn__law_great, []⟩
/-! _law_with_rest -/
abbrev s__law_with_rest : Stmt := topS 14
def N__law_with_rest : List Str := ["bag", "q", "rest", "way", "top", "far"]
def m__law_with_rest : SM := (sSeq (sPar [3, 4] (lCons (up (eCall 2 fn__law_draw (aCons (eVar 0) (aCons (ret (D.int 4)) aNil)))) (lCons (mOp2 dSub (fz (mOp2 dDiv (fz (mOp2 dPow (ret (D.int 10)) (ret (D.int 30)))) (bVar 1))) (ret (D.int 1))) lNil))) (sSeq (sIf (mBl (mOp2 dEq (bVar 3) (ret (D.int 0)))) (sSeq (sRet (eVar 2)) sNil) sNil) (sSeq (sIf (mBl (mOp2 dEq (bVar 3) (ret (D.int 1)))) (sSeq (sRet (fz (mOp2 dSub (bVar 2) (fz (mOp2 dMul (bVar 1) (fz (mOp2 dAdd (ret (D.int 1)) (eCall 2 fn__law_draw (aCons (eVar 0) (aCons (ret (D.int 9)) aNil)))))))))) sNil) sNil) (sSeq (sSet 5 (mOp2 dMod (fz (mOpN dInt (aCons (eCall 1 fn__law_far (aCons (eVar 0) aNil)) aNil))) (fz (mOp2 dAdd (bVar 4) (ret (D.int 1)))))) (sSeq (sIf (mBl (mOp2 dEq (bVar 3) (ret (D.int 3)))) (sSeq (sSet 5 (mOp2 dSub (bVar 4) (bVar 5))) sNil) sNil) (sSeq (sRet (mIf (mBl (mOp2 dEq (eCall 2 fn__law_draw (aCons (eVar 0) (aCons (ret (D.int 2)) aNil))) (ret (D.int 0)))) (fz (mOp2 dAdd (bVar 2) (fz (mOp2 dMul (bVar 1) (bVar 5))))) (fz (mOp2 dSub (bVar 2) (fz (mOp2 dMul (bVar 1) (bVar 5))))))) sNil))))))
def fn__law_with_rest : Fn := fnOf 6 m__law_with_rest
def g__law_with_rest : Gi := ⟨"_law_with_rest", ["bag", "q", "rest"], fn__law_with_rest, []⟩
/-! _law_same -/
abbrev s__law_same : Stmt := topS 15
def N__law_same : List Str := ["told", "due"]
def m__law_same : SM := (sSeq (sRet (eAnd (fz (mOp2 dEq (fz (mOpN dRepr (aCons (bVar 0) aNil))) (fz (mOpN dRepr (aCons (bVar 1) aNil))))) (fz (mOp2 dEq (bVar 0) (bVar 1))))) sNil)
def fn__law_same : Fn := fnOf 2 m__law_same
def g__law_same : Gi := ⟨"_law_same", ["told", "due"], fn__law_same, []⟩
/-! _law_roots -/
abbrev s__law_roots : Stmt := topS 16
def N__law_roots : List Str := ["q", "roots", "x"]
def m__law_roots : SM := (sSeq (sSet 1 (mOp2 dMul (fz (pLst (aCons (ret D.non) aNil))) (bVar 0))) (sSeq (sFor (iRv (fz (mLR1 (eVar 0)))) (tgN 2) (sSeq (sStI 1 (eVar 2) (fz (mOp2 dMod (fz (mOpN dInt (aCons (fz (mOp2 dMul (bVar 2) (bVar 2))) aNil))) (bVar 0)))) sNil)) (sSeq (sRet (eVar 1)) sNil)))
def fn__law_roots : Fn := fnOf 3 m__law_roots
def g__law_roots : Gi := ⟨"_law_roots", ["q"], fn__law_roots, []⟩
/-! _law_signs -/
abbrev s__law_signs : Stmt := topS 17
def N__law_signs : List Str := ["q", "root"]
def m__law_signs : SM := (sSeq (sRet (fz (mOp2 dAdd (fz (pLst (aCons (ret (D.int 0)) aNil))) (fz (pLc (iSeq (fz (mSl (eCall 1 fn__law_roots (aCons (eVar 0) aNil)) (oPart (ret (D.int 1))) oNone))) (tgN 1) tstT (mIf (mBl (mOp2 dIsNot (bVar 1) (ret D.non))) (ret (D.int 1)) (fz (mOp1 dNeg (ret (D.int 1))))) [1]))))) sNil)
def fn__law_signs : Fn := fnOf 2 m__law_signs
def g__law_signs : Gi := ⟨"_law_signs", ["q"], fn__law_signs, []⟩
/-! _law_rests -/
abbrev s__law_rests : Stmt := topS 18
def N__law_rests : List Str := ["bag", "q", "kind", "a", "r", "s", "u", "rest", "root"]
def m__law_rests : SM := (sSeq (sPar [3, 4] (lCons (mOp2 dAdd (ret (D.int 1)) (eCall 2 fn__law_draw (aCons (eVar 0) (aCons (fz (mOp2 dSub (bVar 1) (ret (D.int 1)))) aNil)))) (lCons (up (eCall 2 fn__law_draw (aCons (eVar 0) (aCons (eVar 1) aNil)))) lNil))) (sSeq (sSet 5 (mOp2 dAdd (fz (mOp2 dAdd (bVar 4) (ret (D.int 1)))) (eCall 2 fn__law_draw (aCons (eVar 0) (aCons (fz (mOp2 dSub (bVar 1) (ret (D.int 1)))) aNil))))) (sSeq (sIf (mBl (mOp2 dEq (bVar 2) (ret (D.int 0)))) (sSeq (sRet (fz (pLst (aCons (eVar 3) (aCons (fz (mOp2 dMul (fz (mOp2 dMul (fz (mOp1 dNeg (ret (D.int 2)))) (bVar 3))) (bVar 4))) (aCons (fz (mOp2 dMul (fz (mOp2 dMul (bVar 3) (bVar 4))) (bVar 4))) aNil)))))) sNil) sNil) (sSeq (sIf (mBl (mOp2 dEq (bVar 2) (ret (D.int 1)))) (sSeq (sRet (fz (pLst (aCons (eVar 3) (aCons (fz (mOp2 dMul (fz (mOp1 dNeg (bVar 3))) (fz (mOp2 dAdd (bVar 4) (bVar 5))))) (aCons (fz (mOp2 dMul (fz (mOp2 dMul (bVar 3) (bVar 4))) (bVar 5))) aNil)))))) sNil) sNil) (sSeq (sIf (mBl (mOp2 dEq (bVar 2) (ret (D.int 2)))) (sSeq (sSet 6 (up (eCall 2 fn__law_pick (aCons (eVar 0) (aCons (fz (pLc (iEnu (aCons (eCall 1 fn__law_roots (aCons (eVar 1) aNil)) aNil)) (tgT 2 (tgCons (tgN 7) (tgCons (tgN 8) tgNil))) (mBl (mOp2 dIs (bVar 8) (ret D.non))) (eVar 7) [7, 8])) aNil))))) (sSeq (sRet (fz (pLst (aCons (eVar 3) (aCons (fz (mOp2 dMul (fz (mOp2 dMul (fz (mOp1 dNeg (ret (D.int 2)))) (bVar 3))) (bVar 4))) (aCons (fz (mOp2 dMul (bVar 3) (fz (mOp2 dSub (fz (mOp2 dMul (bVar 4) (bVar 4))) (bVar 6))))) aNil)))))) sNil)) sNil) (sSeq (sIf (mBl (mOp2 dEq (bVar 2) (ret (D.int 3)))) (sSeq (sRet (fz (pLst (aCons (ret (D.int 0)) (aCons (eVar 3) (aCons (eVar 4) aNil)))))) sNil) sNil) (sSeq (sIf (mBl (mOp2 dEq (bVar 2) (ret (D.int 4)))) (sSeq (sRet (fz (pLst (aCons (ret (D.int 0)) (aCons (ret (D.int 0)) (aCons (eVar 3) aNil)))))) sNil) sNil) (sSeq (sIf (mBl (mOp2 dEq (bVar 2) (ret (D.int 5)))) (sSeq (sRet (fz (pLst (aCons (ret (D.int 0)) (aCons (ret (D.int 0)) (aCons (ret (D.int 0)) aNil)))))) sNil) sNil) (sSeq (sIf (mBl (mOp2 dEq (bVar 2) (ret (D.int 6)))) (sSeq (sRet (fz (pLst (aCons (eVar 3) (aCons (ret (D.int 0)) (aCons (eVar 4) aNil)))))) sNil) sNil) (sSeq (sRet (fz (pLst (aCons (eCall 2 fn__law_draw (aCons (eVar 0) (aCons (eVar 1) aNil))) (aCons (eCall 2 fn__law_draw (aCons (eVar 0) (aCons (eVar 1) aNil))) (aCons (eCall 2 fn__law_draw (aCons (eVar 0) (aCons (eVar 1) aNil))) aNil)))))) sNil))))))))))
def fn__law_rests : Fn := fnOf 9 m__law_rests
def g__law_rests : Gi := ⟨"_law_rests", ["bag", "q", "kind"], fn__law_rests, []⟩
/-! _law_formula -/
abbrev s__law_formula : Stmt := topS 19
def N__law_formula : List Str := ["bag", "q", "kind", "rest"]
def m__law_formula : SM := (sSeq (sIf (mBl (mOp2 dEq (bVar 2) (ret (D.int 8)))) (sSeq (sRet (fz (pLst (aCons (eCall 1 fn__law_great (aCons (eVar 0) aNil)) (aCons (eCall 1 fn__law_great (aCons (eVar 0) aNil)) (aCons (eCall 1 fn__law_great (aCons (eVar 0) aNil)) aNil)))))) sNil) sNil) (sSeq (sRet (fz (pLc (iSeq (eCall 3 fn__law_rests (aCons (eVar 0) (aCons (eVar 1) (aCons (eVar 2) aNil))))) (tgN 3) tstT (eCall 3 fn__law_with_rest (aCons (eVar 0) (aCons (eVar 1) (aCons (fz (mOp2 dMod (fz (mOpN dInt (aCons (bVar 3) aNil))) (bVar 1))) aNil)))) [3]))) sNil))
def fn__law_formula : Fn := fnOf 4 m__law_formula
def g__law_formula : Gi := ⟨"_law_formula", ["bag", "q", "kind"], fn__law_formula, []⟩
/-! _law_ways -/
abbrev s__law_ways : Stmt := topS 20
def N__law_ways : List Str := ["q", "ways", "x", "rest"]
def m__law_ways : SM := (sSeq (sSet 1 (mOp2 dMul (fz (pLst (aCons (ret (D.int 0)) aNil))) (bVar 0))) (sSeq (sFor (iRng1 (aCons (eVar 0) aNil)) (tgN 2) (sSeq (sSet 3 (mOp2 dMod (fz (mOpN dInt (aCons (fz (mOp2 dMul (bVar 2) (bVar 2))) aNil))) (bVar 0))) (sSeq (sStI 1 (fz (mOp2 dAdd (fz (mOp2 dIx (bVar 1) (bVar 3))) (ret (D.int 1)))) (eVar 3)) sNil))) (sSeq (sRet (eVar 1)) sNil)))
def fn__law_ways : Fn := fnOf 4 m__law_ways
def g__law_ways : Gi := ⟨"_law_ways", ["q"], fn__law_ways, []⟩
/-! _law_own_count -/
abbrev s__law_own_count : Stmt := topS 21
def N__law_own_count : List Str := ["q", "ways", "number", "rest", "k"]
def m__law_own_count : SM := (sSeq (sSet 3 (mOp2 dMod (fz (mOpN dInt (aCons (bVar 2) aNil))) (bVar 0))) (sSeq (sRet (fz (mOpN dSum (aCons (fz (pLc (iRng1 (aCons (eVar 0) aNil)) (tgN 4) tstT (fz (mOp2 dMul (fz (mOp2 dIx (bVar 1) (bVar 4))) (fz (mOp2 dIx (bVar 1) (fz (mOp2 dSub (bVar 3) (bVar 4))))))) [4])) aNil)))) sNil))
def fn__law_own_count : Fn := fnOf 5 m__law_own_count
def g__law_own_count : Gi := ⟨"_law_own_count", ["q", "ways", "number"], fn__law_own_count, []⟩
/-! _law_is_count_right -/
abbrev s__law_is_count_right : Stmt := topS 22
def N__law_is_count_right : List Str := ["q", "ways", "number", "is_named", "due", "sign", "told"]
def m__law_is_count_right : SM := (sSeq (sPar [4, 5] (lCons (up (eCall 3 fn__law_own_count (aCons (eVar 0) (aCons (eVar 1) (aCons (eVar 2) aNil))))) (lCons (up (mIf (mBl (mOp2 dGt (fz (mOp2 dIx (bVar 1) (fz (mOp2 dSub (bVar 0) (ret (D.int 1)))))) (ret (D.int 0)))) (ret (D.int 1)) (fz (mOp1 dNeg (ret (D.int 1)))))) lNil))) (sSeq (sSet 6 (up (mIf (mTru (bVar 3)) (eCallK 2 fn_circle_count 2 [0, 1] (aCons (eVar 0) (aCons (eVar 2) aNil))) (eCall 2 fn_circle_count (aCons (eVar 0) (aCons (eVar 2) aNil)))))) (sSeq (sIf (mNot (mTru (eCall 2 fn__law_same (aCons (fz (pLst (aCons (eVar 6) (aCons (eCall 2 fn_square_sign (aCons (eVar 0) (aCons (fz (mOp1 dNeg (ret (D.int 1)))) aNil))) aNil)))) (aCons (fz (pLst (aCons (eVar 4) (aCons (eVar 5) aNil)))) aNil))))) (sSeq (sRet (ret (D.bl false))) sNil) sNil) (sSeq (sRet (fz (mOp2 dEq (bVar 6) (mIf (mBl (mOp2 dGt (fz (mOp2 dMod (fz (mOpN dInt (aCons (bVar 2) aNil))) (bVar 0))) (ret (D.int 0)))) (fz (mOp2 dSub (bVar 0) (bVar 5))) (fz (mOp2 dAdd (bVar 0) (fz (mOp2 dMul (fz (mOp2 dSub (bVar 0) (ret (D.int 1)))) (bVar 5))))))))) sNil))))
def fn__law_is_count_right : Fn := fnOf 7 m__law_is_count_right
def g__law_is_count_right : Gi := ⟨"_law_is_count_right", ["q", "ways", "number", "is_named"], fn__law_is_count_right, []⟩
/-! _law_are_all_right -/
abbrev s__law_are_all_right : Stmt := topS 23
def N__law_are_all_right : List Str := ["bag", "q", "ways", "total", "rest", "number"]
def m__law_are_all_right : SM := (sSeq (sPar [2, 3] (lCons (up (eCall 1 fn__law_ways (aCons (eVar 1) aNil))) (lCons (up (ret (D.int 0))) lNil))) (sSeq (sFor (iRng1 (aCons (eVar 1) aNil)) (tgN 4) (sSeq (sSet 5 (up (eCall 3 fn__law_with_rest (aCons (eVar 0) (aCons (eVar 1) (aCons (eVar 4) aNil)))))) (sSeq (sIf (mNot (mTru (eCall 4 fn__law_is_count_right (aCons (eVar 1) (aCons (eVar 2) (aCons (eVar 5) (aCons (fz (mOp2 dEq (fz (mOp2 dMod (bVar 4) (ret (D.int 2)))) (ret (D.int 1)))) aNil))))))) (sSeq (sRet (ret (D.bl false))) sNil) sNil) (sSeq (sSet 3 (mOp2 dAdd (bVar 3) (eCall 2 fn_circle_count (aCons (eVar 1) (aCons (eVar 5) aNil))))) sNil)))) (sSeq (sRet (fz (mOp2 dEq (bVar 3) (fz (mOp2 dMul (bVar 1) (bVar 1)))))) sNil)))
def fn__law_are_all_right : Fn := fnOf 6 m__law_are_all_right
def g__law_are_all_right : Gi := ⟨"_law_are_all_right", ["bag", "q"], fn__law_are_all_right, []⟩
/-! _law_own_found -/
abbrev s__law_own_found : Stmt := topS 24
def N__law_own_found : List Str := ["q", "rests", "a", "b", "c", "x"]
def m__law_own_found : SM := (sSeq (sAsg (eVar 1) (tgT 3 (tgCons (tgN 2) (tgCons (tgN 3) (tgCons (tgN 4) tgNil))))) (sSeq (sRet (fz (mOpN dLen (aCons (fz (pLc (iRng1 (aCons (eVar 0) aNil)) (tgN 5) (mBl (mOp2 dEq (fz (mOp2 dMod (fz (mOpN dInt (aCons (fz (mOp2 dAdd (fz (mOp2 dAdd (fz (mOp2 dMul (fz (mOp2 dMul (bVar 2) (bVar 5))) (bVar 5))) (fz (mOp2 dMul (bVar 3) (bVar 5))))) (bVar 4))) aNil))) (bVar 0))) (ret (D.int 0)))) (ret (D.int 1)) [5])) aNil)))) sNil))
def fn__law_own_found : Fn := fnOf 6 m__law_own_found
def g__law_own_found : Gi := ⟨"_law_own_found", ["q", "rests"], fn__law_own_found, []⟩
/-! _law_are_found_right -/
abbrev s__law_are_found_right : Stmt := topS 25
def N__law_are_found_right : List Str := ["q", "formula", "is_named", "a", "b", "c", "rests", "number", "due", "told", "within", "sign"]
def m__law_are_found_right : SM := (sSeq (sAsg (eVar 1) (tgT 3 (tgCons (tgN 3) (tgCons (tgN 4) (tgCons (tgN 5) tgNil))))) (sSeq (sSet 6 (pLc (iSeq (eVar 1)) (tgN 7) tstT (fz (mOp2 dMod (fz (mOpN dInt (aCons (bVar 7) aNil))) (bVar 0))) [7])) (sSeq (sSet 8 (up (eCall 2 fn__law_own_found (aCons (eVar 0) (aCons (eVar 6) aNil))))) (sSeq (sSet 9 (up (mIf (mTru (bVar 2)) (eCallK 4 fn_formula_roots 4 [3, 2, 1, 0] (aCons (eVar 5) (aCons (eVar 4) (aCons (eVar 3) (aCons (eVar 0) aNil))))) (eCall 4 fn_formula_roots (aCons (eVar 0) (aCons (eVar 3) (aCons (eVar 4) (aCons (eVar 5) aNil)))))))) (sSeq (sIf (mNot (mTru (eCall 2 fn__law_same (aCons (eVar 9) (aCons (eVar 8) aNil))))) (sSeq (sRet (ret (D.bl false))) sNil) sNil) (sSeq (sIf (mBl (mOp2 dEq (fz (mOp2 dIx (bVar 6) (ret (D.int 0)))) (ret (D.int 0)))) (sSeq (sRet (fz (mOp2 dEq (bVar 9) (mIf (mBl (mOp2 dGt (fz (mOp2 dIx (bVar 6) (ret (D.int 1)))) (ret (D.int 0)))) (ret (D.int 1)) (mIf (mBl (mOp2 dGt (fz (mOp2 dIx (bVar 6) (ret (D.int 2)))) (ret (D.int 0)))) (ret (D.int 0)) (eVar 0)))))) sNil) sNil) (sSeq (sSet 10 (mOp2 dSub (fz (mOp2 dMul (fz (mOp2 dIx (bVar 6) (ret (D.int 1)))) (fz (mOp2 dIx (bVar 6) (ret (D.int 1)))))) (fz (mOp2 dMul (fz (mOp2 dMul (ret (D.int 4)) (fz (mOp2 dIx (bVar 6) (ret (D.int 0)))))) (fz (mOp2 dIx (bVar 6) (ret (D.int 2)))))))) (sSeq (sSet 11 (mOp2 dIx (eCall 1 fn__law_signs (aCons (eVar 0) aNil)) (fz (mOp2 dMod (fz (mOpN dInt (aCons (bVar 10) aNil))) (bVar 0))))) (sSeq (sRet (eAnd (fz (mOp2 dEq (bVar 9) (fz (mOp2 dAdd (ret (D.int 1)) (bVar 11))))) (eCall 2 fn__law_same (aCons (eCall 2 fn_square_sign (aCons (eVar 0) (aCons (eVar 10) aNil))) (aCons (eVar 11) aNil))))) sNil)))))))))
def fn__law_are_found_right : Fn := fnOf 12 m__law_are_found_right
def g__law_are_found_right : Gi := ⟨"_law_are_found_right", ["q", "formula", "is_named"], fn__law_are_found_right, []⟩
/-! law -/
abbrev s_law : Stmt := topS 26
def N_law : List Str := ["script", "bag", "some", "small", "q", "other", "first", "kind", "formula", "ways", "k", "prime", "way", "number", "own", "sort", "edges", "plain", "bound"]
def m_law : SM := (sSeq (sSet 1 (up (eCall 1 fn__law_own_bag (aCons (eVar 0) aNil)))) (sSeq (sPar [2, 3] (lCons (up (eCall 3 fn__law_some_primes (aCons (eVar 1) (aCons (eCall 0 fn__law_primes aNil) (aCons (ret (D.int 2)) aNil))))) (lCons (up (eCall 2 fn__law_pick (aCons (eVar 1) (aCons (fz (pLst (aCons (ret (D.int 3)) (aCons (ret (D.int 5)) (aCons (ret (D.int 7)) (aCons (ret (D.int 11)) (aCons (ret (D.int 13)) aNil))))))) aNil)))) lNil))) (sSeq (sAsg (eVar 2) (tgT 2 (tgCons (tgN 4) (tgCons (tgN 5) tgNil)))) (sSeq (sPar [6, 7] (lCons (up (eCall 1 fn__law_great (aCons (eVar 1) aNil))) (lCons (up (eCall 2 fn__law_draw (aCons (eVar 1) (aCons (ret (D.int 9)) aNil)))) lNil))) (sSeq (sPar [8, 9] (lCons (up (eCall 3 fn__law_formula (aCons (eVar 1) (aCons (eVar 4) (aCons (eVar 7) aNil))))) (lCons (up (eCall 1 fn__law_ways (aCons (eVar 4) aNil))) lNil))) (sSeq (sIf (mOr (mNot (mTru (eCall 4 fn__law_is_count_right (aCons (eVar 4) (aCons (eVar 9) (aCons (eVar 6) (aCons (ret (D.bl false)) aNil))))))) (mNot (mTru (eCall 3 fn__law_are_found_right (aCons (eVar 4) (aCons (eVar 8) (aCons (ret (D.bl true)) aNil))))))) (sSeq (sRet (ret (D.bl false))) sNil) sNil) (sSeq (sFor (iEnu (aCons (eCall 0 fn__law_primes aNil) aNil)) (tgT 2 (tgCons (tgN 10) (tgCons (tgN 11) tgNil))) (sSeq (sSet 12 (up (eCall 2 fn__law_draw (aCons (eVar 1) (aCons (ret (D.int 3)) aNil))))) (sSeq (sSet 13 (up (mIf (mBl (mOp2 dEq (bVar 12) (ret (D.int 0)))) (eCall 1 fn__law_great (aCons (eVar 1) aNil)) (eCall 3 fn__law_with_rest (aCons (eVar 1) (aCons (eVar 11) (aCons (mIf (mBl (mOp2 dEq (bVar 12) (ret (D.int 1)))) (ret (D.int 0)) (eCall 2 fn__law_draw (aCons (eVar 1) (aCons (eVar 11) aNil)))) aNil))))))) (sSeq (sIf (mNot (mTru (eCall 4 fn__law_is_count_right (aCons (eVar 11) (aCons (eCall 1 fn__law_ways (aCons (eVar 11) aNil)) (aCons (eVar 13) (aCons (fz (mOp2 dEq (fz (mOp2 dMod (bVar 10) (ret (D.int 2)))) (ret (D.int 0)))) aNil))))))) (sSeq (sRet (ret (D.bl false))) sNil) sNil) (sSeq (sFor (iSeq (fz (pLst (aCons (eCall 3 fn__law_formula (aCons (eVar 1) (aCons (eVar 11) (aCons (fz (mOp2 dMod (fz (mOpN dInt (aCons (fz (mOp2 dAdd (bVar 10) (bVar 7))) aNil))) (ret (D.int 9)))) aNil)))) (aCons (eCall 3 fn__law_formula (aCons (eVar 1) (aCons (eVar 11) (aCons (eCall 2 fn__law_draw (aCons (eVar 1) (aCons (ret (D.int 9)) aNil))) aNil)))) aNil))))) (tgN 14) (sSeq (sIf (mNot (mTru (eCall 3 fn__law_are_found_right (aCons (eVar 11) (aCons (eVar 14) (aCons (fz (mOp2 dEq (fz (mOp2 dMod (bVar 10) (ret (D.int 2)))) (ret (D.int 1)))) aNil)))))) (sSeq (sRet (ret (D.bl false))) sNil) sNil) sNil)) sNil))))) (sSeq (sFor (iRng1 (aCons (ret (D.int 9)) aNil)) (tgN 15) (sSeq (sIf (mNot (mTru (eCall 3 fn__law_are_found_right (aCons (eVar 4) (aCons (eCall 3 fn__law_formula (aCons (eVar 1) (aCons (eVar 4) (aCons (eVar 15) aNil)))) (aCons (fz (mOp2 dEq (fz (mOp2 dMod (bVar 15) (ret (D.int 2)))) (ret (D.int 0)))) aNil)))))) (sSeq (sRet (ret (D.bl false))) sNil) sNil) sNil)) (sSeq (sSet 16 (pLc (iRng1 (aCons (ret (D.int 3)) aNil)) (tgN 10) tstT (eCall 2 fn__law_pick (aCons (eVar 1) (aCons (fz (pLst (aCons (fz (mOp2 dPow (ret (D.int 10)) (ret (D.int 30)))) (aCons (fz (mOp1 dNeg (fz (mOp2 dPow (ret (D.int 10)) (ret (D.int 30)))))) (aCons (ret (D.int 0)) aNil))))) aNil))) [10])) (sSeq (sSet 17 (pLc (iRng1 (aCons (ret (D.int 3)) aNil)) (tgN 10) tstT (eCall 2 fn__law_pick (aCons (eVar 1) (aCons (fz (pLst (aCons (ret (D.int 0)) (aCons (eVar 5) (aCons (fz (mOp1 dNeg (bVar 5))) (aCons (ret (D.int 1)) aNil)))))) aNil))) [10])) (sSeq (sFor (iSeq (fz (pLst (aCons (eVar 16) (aCons (eVar 17) (aCons (fz (pLst (aCons (ret (D.int 0)) (aCons (ret (D.int 0)) (aCons (ret (D.int 0)) aNil))))) (aCons (fz (pLst (aCons (ret (D.int 0)) (aCons (ret (D.int 0)) (aCons (eVar 5) aNil))))) (aCons (fz (pLst (aCons (ret (D.int 0)) (aCons (fz (mOp1 dNeg (bVar 5))) (aCons (ret (D.int 1)) aNil))))) (aCons (fz (pLst (aCons (eVar 5) (aCons (ret (D.int 0)) (aCons (ret (D.int 0)) aNil))))) aNil))))))))) (tgN 14) (sSeq (sIf (mNot (mTru (eCall 3 fn__law_are_found_right (aCons (eVar 5) (aCons (eVar 14) (aCons (fz (mOp2 dEq (bVar 14) (bVar 17))) aNil)))))) (sSeq (sRet (ret (D.bl false))) sNil) sNil) sNil)) (sSeq (sSet 18 (up (eCall 2 fn__law_pick (aCons (eVar 1) (aCons (fz (pLst (aCons (fz (mOp2 dPow (ret (D.int 10)) (ret (D.int 30)))) (aCons (fz (mOp1 dNeg (fz (mOp2 dPow (ret (D.int 10)) (ret (D.int 30)))))) aNil)))) aNil))))) (sSeq (sFor (iSeq (fz (pLst (aCons (eCall 3 fn__law_with_rest (aCons (eVar 1) (aCons (eVar 4) (aCons (ret (D.int 0)) aNil)))) (aCons (eCall 3 fn__law_with_rest (aCons (eVar 1) (aCons (eVar 4) (aCons (fz (mOp2 dSub (bVar 4) (ret (D.int 1)))) aNil)))) (aCons (eVar 18) aNil)))))) (tgN 13) (sSeq (sIf (mNot (mTru (eCall 4 fn__law_is_count_right (aCons (eVar 4) (aCons (eVar 9) (aCons (eVar 13) (aCons (ret (D.bl true)) aNil))))))) (sSeq (sRet (ret (D.bl false))) sNil) sNil) sNil)) (sSeq (sIf (mNot (mTru (eCall 2 fn__law_are_all_right (aCons (eVar 1) (aCons (eVar 3) aNil))))) (sSeq (sRet (ret (D.bl false))) sNil) sNil) (sSeq (sRet (eAnd (eCall 4 fn__law_is_count_right (aCons (eVar 4) (aCons (eVar 9) (aCons (eVar 6) (aCons (ret (D.bl true)) aNil))))) (eCall 3 fn__law_are_found_right (aCons (eVar 4) (aCons (eVar 8) (aCons (ret (D.bl false)) aNil)))))) sNil)))))))))))))))
def fn_law : Fn := fnOf 19 m_law
def g_law : Gi := ⟨"law", ["script"], fn_law, []⟩
section
def C_square_sign : Ct := ⟨N_square_sign, defScope s_square_sign, defScope s_square_sign, [], [], ["any", "range"]⟩
theorem sc_square_sign : FnScope N_square_sign ["q", "number"] (defScope s_square_sign) := ⟨rfl, rfl, rfl, by decide +kernel, rfl, by decide +kernel, by decide +kernel⟩
theorem w_square_sign {X : Cx} {c : Cc} (g : Good CX0 X c C_square_sign) : PSs X (defBody s_square_sign) (tS c m_square_sign) :=
  (s_seq (gS_set g (by decide +kernel) (by decide +kernel) rfl (gP_bin g rfl (gB_var g (by decide +kernel)) (gB_var g (by decide +kernel)))) (s_seq (s_if (gT_cmp g rfl rfl (gB_var g (by decide +kernel)) (e_int).eB) (s_seq (s_ret e_int) s_nil) s_nil) (s_seq (s_ret (e_ifE (gT_tru g rfl (((gP_bi g rfl (by decide +kernel) (by decide +kernel) rfl (ab_cons rfl (((gP_lc g (own := [("x", 3)]) (by decide +kernel) rfl rfl rfl (gI_rng2 g (by decide +kernel) (by decide +kernel) rfl rfl (a_cons rfl e_int (a_cons rfl ((gP_bin g rfl (((gP_bin g rfl (gB_var g (by decide +kernel)) (e_int).eB)).pE).eB (e_int).eB)).pE a_nil))) (fun h1 => (gG_name h1 (by decide +kernel) (by decide +kernel))) (fun h1 => gT_none) (fun h1 => ((gP_cmp h1 rfl rfl (((gP_bin h1 rfl (((gP_bin h1 rfl (gB_var h1 (by decide +kernel)) (gB_var h1 (by decide +kernel)))).pE).eB (gB_var h1 (by decide +kernel)))).pE).eB (gB_var h1 (by decide +kernel)))).pE))).pE).eB ab_nil))).pE).eB) e_int ((gP_neg g (e_int).eB)).pE)) s_nil)))
def C_formula_rests : Ct := ⟨N_formula_rests, defScope s_formula_rests, defScope s_formula_rests, [], [], ["range"]⟩
theorem sc_formula_rests : FnScope N_formula_rests ["q", "a", "b", "c"] (defScope s_formula_rests) := ⟨rfl, rfl, rfl, by decide +kernel, rfl, by decide +kernel, by decide +kernel⟩
theorem w_formula_rests {X : Cx} {c : Cc} (g : Good CX0 X c C_formula_rests) : PSs X (defBody s_formula_rests) (tS c m_formula_rests) :=
  (s_seq (s_ret ((gP_lc g (own := [("x", 4)]) (by decide +kernel) rfl rfl rfl (gI_rng1 g (by decide +kernel) (by decide +kernel) rfl (a_cons rfl (gE_var g (by decide +kernel)) a_nil)) (fun h1 => (gG_name h1 (by decide +kernel) (by decide +kernel))) (fun h1 => gT_none) (fun h1 => ((gP_bin h1 rfl (((gP_bin h1 rfl (((gP_bin h1 rfl (((gP_bin h1 rfl (((gP_bin h1 rfl (gB_var h1 (by decide +kernel)) (gB_var h1 (by decide +kernel)))).pE).eB (gB_var h1 (by decide +kernel)))).pE).eB (((gP_bin h1 rfl (gB_var h1 (by decide +kernel)) (gB_var h1 (by decide +kernel)))).pE).eB)).pE).eB (gB_var h1 (by decide +kernel)))).pE).eB (gB_var h1 (by decide +kernel)))).pE))).pE) s_nil)
def C_circle_count : Ct := ⟨N_circle_count, defScope s_circle_count, defScope s_circle_count, [], [], ["range"]⟩
theorem sc_circle_count : FnScope N_circle_count ["q", "number"] (defScope s_circle_count) := ⟨rfl, rfl, rfl, by decide +kernel, rfl, by decide +kernel, by decide +kernel⟩
theorem w_circle_count {X : Cx} {c : Cc} (g : Good CX0 X c C_circle_count) : PSs X (defBody s_circle_count) (tS c m_circle_count) :=
  (s_seq (gS_par2 g (by decide +kernel) (by decide +kernel) (by decide) (by decide +kernel) (by decide +kernel) rfl (l_cons rfl (gP_lc g (own := [("x", 4)]) (by decide +kernel) rfl rfl rfl (gI_rng1 g (by decide +kernel) (by decide +kernel) rfl (a_cons rfl (gE_var g (by decide +kernel)) a_nil)) (fun h1 => (gG_name h1 (by decide +kernel) (by decide +kernel))) (fun h1 => gT_none) (fun h1 => ((gP_bin h1 rfl (((gP_bin h1 rfl (gB_var h1 (by decide +kernel)) (gB_var h1 (by decide +kernel)))).pE).eB (gB_var h1 (by decide +kernel)))).pE)) (l_cons rfl (e_int).eP l_nil))) (s_seq (gS_for g rfl (gI_seq g (gE_var g (by decide +kernel))) (gG_name g (by decide +kernel) (by decide +kernel)) (s_seq (gS_set g (by decide +kernel) (by decide +kernel) rfl (gP_bin g rfl (gB_var g (by decide +kernel)) (((gP_cnt g rfl rfl rfl (gB_var g (by decide +kernel)) (((gP_bin g rfl (((gP_bin g rfl (gB_var g (by decide +kernel)) (gB_var g (by decide +kernel)))).pE).eB (gB_var g (by decide +kernel)))).pE).eB)).pE).eB)) s_nil)) (s_seq (s_ret (gE_var g (by decide +kernel))) s_nil)))
def C_formula_roots : Ct := ⟨N_formula_roots, defScope s_formula_roots, defScope s_formula_roots, [g_formula_rests], [], []⟩
theorem sc_formula_roots : FnScope N_formula_roots ["q", "a", "b", "c"] (defScope s_formula_roots) := ⟨rfl, rfl, rfl, by decide +kernel, rfl, by decide +kernel, by decide +kernel⟩
theorem w_formula_roots {X : Cx} {c : Cc} (g : Good CX0 X c C_formula_roots) : PSs X (defBody s_formula_roots) (tS c m_formula_roots) :=
  (s_seq (s_ret ((gP_cnt g rfl rfl rfl ((gE_call g (j := 0) (gi := g_formula_rests) rfl rfl rfl rfl (by decide +kernel) rfl (a_cons rfl (gE_var g (by decide +kernel)) (a_cons rfl (gE_var g (by decide +kernel)) (a_cons rfl (gE_var g (by decide +kernel)) (a_cons rfl (gE_var g (by decide +kernel)) a_nil)))))).eB (e_int).eB)).pE) s_nil)
def C__law_own_bag : Ct := ⟨N__law_own_bag, defScope s__law_own_bag, defScope s__law_own_bag, [], [], ["list", "reversed", "int", "len", "abs"]⟩
theorem sc__law_own_bag : FnScope N__law_own_bag ["script"] (defScope s__law_own_bag) := ⟨rfl, rfl, rfl, by decide +kernel, rfl, by decide +kernel, by decide +kernel⟩
theorem w__law_own_bag {X : Cx} {c : Cc} (g : Good CX0 X c C__law_own_bag) : PSs X (defBody s__law_own_bag) (tS c m__law_own_bag) :=
  (s_seq (gS_setLc g (by decide +kernel) (by decide +kernel) rfl (by decide +kernel) (own := [("cell", 2)]) (by decide +kernel) rfl rfl rfl (gI_seq g ((gP_sl g (gB_var g (by decide +kernel)) o_none (o_some e_int))).pE) (fun h1 => (gG_name h1 (by decide +kernel) (by decide +kernel))) (fun h1 => gT_none) (fun h1 => ((gP_bi h1 rfl (by decide +kernel) (by decide +kernel) rfl (ab_cons rfl (((gP_bi h1 rfl (by decide +kernel) (by decide +kernel) rfl (ab_cons rfl (gB_var h1 (by decide +kernel)) ab_nil))).pE).eB ab_nil))).pE)) (s_seq (gS_set g (by decide +kernel) (by decide +kernel) rfl (gP_bin g rfl (e_int).eB (((gP_bi g rfl (by decide +kernel) (by decide +kernel) rfl (ab_cons rfl (gB_var g (by decide +kernel)) ab_nil))).pE).eB)) (s_seq (gS_for g rfl (gI_seq g (gE_var g (by decide +kernel))) (gG_name g (by decide +kernel) (by decide +kernel)) (s_seq (gS_set g (by decide +kernel) (by decide +kernel) rfl (gP_bin g rfl (((gP_bi g rfl (by decide +kernel) (by decide +kernel) rfl (ab_cons rfl (((gP_bin g rfl (((gP_bin g rfl (((gP_bin g rfl (gB_var g (by decide +kernel)) (e_int).eB)).pE).eB (((gP_bin g rfl (gB_var g (by decide +kernel)) (e_int).eB)).pE).eB)).pE).eB (e_int).eB)).pE).eB ab_nil))).pE).eB (e_int).eB)) s_nil)) (s_seq (s_ret (gE_bag g (by decide +kernel) (by decide +kernel) (by decide +kernel) (by decide +kernel) rfl rfl ((gP_bi g rfl (by decide +kernel) (by decide +kernel) rfl (ab_cons rfl (gB_var g (by decide +kernel)) ab_nil))).pE (gE_var g (by decide +kernel)))) s_nil))))
def C__law_draw : Ct := ⟨N__law_draw, defScope s__law_draw, defScope s__law_draw, [], [], ["int"]⟩
theorem sc__law_draw : FnScope N__law_draw ["bag", "below"] (defScope s__law_draw) := ⟨rfl, rfl, rfl, by decide +kernel, rfl, by decide +kernel, by decide +kernel⟩
theorem w__law_draw {X : Cx} {c : Cc} (g : Good CX0 X c C__law_draw) : PSs X (defBody s__law_draw) (tS c m__law_draw) :=
  (s_seq (gS_while g ((w_and (gT_cmp g rfl rfl (((gP_ix g rfl (gB_var g (by decide +kernel)) (e_int).eB)).pE).eB (e_int).eB) (pw_and1 (gT_cmp g rfl rfl (((gP_ix g rfl (gB_var g (by decide +kernel)) (e_int).eB)).pE).eB (((p_lst a_nil)).pE).eB)))).pt (s_seq (gS_setX g (by decide +kernel) (by decide +kernel) rfl (gX_popR g rfl rfl ((gP_ix g rfl (gB_var g (by decide +kernel)) (e_int).eB)).pE)) (s_seq (gS_st g (by decide +kernel) rfl ((e_ifE (gT_cmp g rfl rfl (gB_var g (by decide +kernel)) (((gP_bin g rfl (e_int).eB (e_int).eB)).pE).eB) (gE_var g (by decide +kernel)) e_int)).eX e_int) s_nil))) (s_seq (s_if (gT_cmp g rfl rfl (((gP_ix g rfl (gB_var g (by decide +kernel)) (e_int).eB)).pE).eB (e_int).eB) (s_seq (gS_set g (by decide +kernel) (by decide +kernel) rfl (gP_bin g rfl (((gP_bi g rfl (by decide +kernel) (by decide +kernel) rfl (ab_cons rfl (((gP_ix g rfl (gB_var g (by decide +kernel)) (e_int).eB)).pE).eB ab_nil))).pE).eB (gB_var g (by decide +kernel)))) (s_seq (gS_st g (by decide +kernel) rfl (((gP_bin g rfl (((gP_ix g rfl (gB_var g (by decide +kernel)) (e_int).eB)).pE).eB (gB_var g (by decide +kernel)))).pE).eX e_int) (s_seq (s_ret (gE_var g (by decide +kernel))) s_nil))) s_nil) (s_seq (gS_st g (by decide +kernel) rfl (((gP_bin g rfl (((gP_bi g rfl (by decide +kernel) (by decide +kernel) rfl (ab_cons rfl (((gP_bin g rfl (((gP_bin g rfl (((gP_ix g rfl (gB_var g (by decide +kernel)) (e_int).eB)).pE).eB (e_int).eB)).pE).eB (e_int).eB)).pE).eB ab_nil))).pE).eB (e_int).eB)).pE).eX e_int) (s_seq (s_ret ((gP_bin g rfl (((gP_bin g rfl (((gP_bin g rfl (((gP_bi g rfl (by decide +kernel) (by decide +kernel) rfl (ab_cons rfl (((gP_bin g rfl (((gP_ix g rfl (gB_var g (by decide +kernel)) (e_int).eB)).pE).eB (((gP_ix g rfl (gB_var g (by decide +kernel)) (e_int).eB)).pE).eB)).pE).eB ab_nil))).pE).eB (e_int).eB)).pE).eB (e_int).eB)).pE).eB (gB_var g (by decide +kernel)))).pE) s_nil))))
def C__law_pick : Ct := ⟨N__law_pick, defScope s__law_pick, defScope s__law_pick, [g__law_draw], [], ["len"]⟩
theorem sc__law_pick : FnScope N__law_pick ["bag", "some"] (defScope s__law_pick) := ⟨rfl, rfl, rfl, by decide +kernel, rfl, by decide +kernel, by decide +kernel⟩
theorem w__law_pick {X : Cx} {c : Cc} (g : Good CX0 X c C__law_pick) : PSs X (defBody s__law_pick) (tS c m__law_pick) :=
  (s_seq (s_ret ((gP_ix g rfl (gB_var g (by decide +kernel)) ((gE_call g (j := 0) (gi := g__law_draw) rfl rfl rfl rfl (by decide +kernel) rfl (a_cons rfl (gE_var g (by decide +kernel)) (a_cons rfl ((gP_bi g rfl (by decide +kernel) (by decide +kernel) rfl (ab_cons rfl (gB_var g (by decide +kernel)) ab_nil))).pE a_nil)))).eB)).pE) s_nil)
def C__law_primes : Ct := ⟨N__law_primes, defScope s__law_primes, defScope s__law_primes, [], [], []⟩
theorem sc__law_primes : FnScope N__law_primes [] (defScope s__law_primes) := ⟨rfl, rfl, rfl, by decide +kernel, rfl, by decide +kernel, by decide +kernel⟩
theorem w__law_primes {X : Cx} {c : Cc} (g : Good CX0 X c C__law_primes) : PSs X (defBody s__law_primes) (tS c m__law_primes) :=
  (s_seq (s_ret ((p_lst (a_cons rfl e_int (a_cons rfl e_int (a_cons rfl e_int (a_cons rfl e_int (a_cons rfl e_int (a_cons rfl e_int (a_cons rfl e_int (a_cons rfl e_int (a_cons rfl e_int (a_cons rfl e_int (a_cons rfl e_int (a_cons rfl e_int (a_cons rfl e_int (a_cons rfl e_int (a_cons rfl e_int (a_cons rfl e_int (a_cons rfl e_int a_nil))))))))))))))))))).pE) s_nil)
def C__law_some_primes : Ct := ⟨N__law_some_primes, defScope s__law_some_primes, defScope s__law_some_primes, [g__law_draw], [], ["range", "int", "len"]⟩
theorem sc__law_some_primes : FnScope N__law_some_primes ["bag", "some", "many"] (defScope s__law_some_primes) := ⟨rfl, rfl, rfl, by decide +kernel, rfl, by decide +kernel, by decide +kernel⟩
theorem w__law_some_primes {X : Cx} {c : Cc} (g : Good CX0 X c C__law_some_primes) : PSs X (defBody s__law_some_primes) (tS c m__law_some_primes) :=
  (s_seq (gS_parT g rfl rfl rfl rfl (by decide) (l_cons rfl ((gE_call g (j := 0) (gi := g__law_draw) rfl rfl rfl rfl (by decide +kernel) rfl (a_cons rfl (gE_var g (by decide +kernel)) (a_cons rfl ((gP_bi g rfl (by decide +kernel) (by decide +kernel) rfl (ab_cons rfl (gB_var g (by decide +kernel)) ab_nil))).pE a_nil)))).eP (l_cons rfl (gP_bin g rfl (e_int).eB ((gE_call g (j := 0) (gi := g__law_draw) rfl rfl rfl rfl (by decide +kernel) rfl (a_cons rfl (gE_var g (by decide +kernel)) (a_cons rfl ((gP_bin g rfl (((gP_bi g rfl (by decide +kernel) (by decide +kernel) rfl (ab_cons rfl (gB_var g (by decide +kernel)) ab_nil))).pE).eB (e_int).eB)).pE a_nil)))).eB) l_nil)) (gS_name g (by decide +kernel) (by decide +kernel) (gS_name g (by decide +kernel) (by decide +kernel) gset_nil))) (s_seq (s_ret ((gP_lc g (own := [("k", 5)]) (by decide +kernel) rfl rfl rfl (gI_rng1 g (by decide +kernel) (by decide +kernel) rfl (a_cons rfl (gE_var g (by decide +kernel)) a_nil)) (fun h1 => (gG_name h1 (by decide +kernel) (by decide +kernel))) (fun h1 => gT_none) (fun h1 => ((gP_ix h1 rfl (gB_var h1 (by decide +kernel)) (((gP_bin h1 rfl (((gP_bi h1 rfl (by decide +kernel) (by decide +kernel) rfl (ab_cons rfl (((gP_bin h1 rfl (gB_var h1 (by decide +kernel)) (((gP_bin h1 rfl (gB_var h1 (by decide +kernel)) (gB_var h1 (by decide +kernel)))).pE).eB)).pE).eB ab_nil))).pE).eB (((gP_bi h1 rfl (by decide +kernel) (by decide +kernel) rfl (ab_cons rfl (gB_var h1 (by decide +kernel)) ab_nil))).pE).eB)).pE).eB)).pE))).pE) s_nil))
def C__law_far : Ct := ⟨N__law_far, defScope s__law_far, defScope s__law_far, [g__law_draw], [], []⟩
theorem sc__law_far : FnScope N__law_far ["bag"] (defScope s__law_far) := ⟨rfl, rfl, rfl, by decide +kernel, rfl, by decide +kernel, by decide +kernel⟩
theorem w__law_far {X : Cx} {c : Cc} (g : Good CX0 X c C__law_far) : PSs X (defBody s__law_far) (tS c m__law_far) :=
  (s_seq (gS_par2 g (by decide +kernel) (by decide +kernel) (by decide) (by decide +kernel) (by decide +kernel) rfl (l_cons rfl ((gE_call g (j := 0) (gi := g__law_draw) rfl rfl rfl rfl (by decide +kernel) rfl (a_cons rfl (gE_var g (by decide +kernel)) (a_cons rfl ((gP_bin g rfl (e_int).eB (e_int).eB)).pE a_nil)))).eP (l_cons rfl ((gE_call g (j := 0) (gi := g__law_draw) rfl rfl rfl rfl (by decide +kernel) rfl (a_cons rfl (gE_var g (by decide +kernel)) (a_cons rfl ((gP_bin g rfl (e_int).eB (e_int).eB)).pE a_nil)))).eP l_nil))) (s_seq (s_ret ((gP_bin g rfl (((gP_bin g rfl (((gP_bin g rfl (((gP_bin g rfl (gB_var g (by decide +kernel)) (((gP_bin g rfl (e_int).eB (e_int).eB)).pE).eB)).pE).eB (gB_var g (by decide +kernel)))).pE).eB (((gP_bin g rfl (e_int).eB (e_int).eB)).pE).eB)).pE).eB ((gE_call g (j := 0) (gi := g__law_draw) rfl rfl rfl rfl (by decide +kernel) rfl (a_cons rfl (gE_var g (by decide +kernel)) (a_cons rfl ((gP_bin g rfl (e_int).eB (e_int).eB)).pE a_nil)))).eB)).pE) s_nil))
def C__law_great : Ct := ⟨N__law_great, defScope s__law_great, defScope s__law_great, [g__law_draw, g__law_far], [], []⟩
theorem sc__law_great : FnScope N__law_great ["bag"] (defScope s__law_great) := ⟨rfl, rfl, rfl, by decide +kernel, rfl, by decide +kernel, by decide +kernel⟩
theorem w__law_great {X : Cx} {c : Cc} (g : Good CX0 X c C__law_great) : PSs X (defBody s__law_great) (tS c m__law_great) :=
  (s_seq (gS_set g (by decide +kernel) (by decide +kernel) rfl ((gE_call g (j := 0) (gi := g__law_draw) rfl rfl rfl rfl (by decide +kernel) rfl (a_cons rfl (gE_var g (by decide +kernel)) (a_cons rfl e_int a_nil)))).eP) (s_seq (s_if (gT_cmp g rfl rfl (gB_var g (by decide +kernel)) (e_int).eB) (s_seq (gS_set g (by decide +kernel) (by decide +kernel) rfl ((gE_call g (j := 0) (gi := g__law_draw) rfl rfl rfl rfl (by decide +kernel) rfl (a_cons rfl (gE_var g (by decide +kernel)) (a_cons rfl e_int a_nil)))).eP) s_nil) (s_seq (s_if (gT_cmp g rfl rfl (gB_var g (by decide +kernel)) (e_int).eB) (s_seq (gS_set g (by decide +kernel) (by decide +kernel) rfl (gP_bin g rfl (((gP_bin g rfl (e_int).eB (e_int).eB)).pE).eB ((gE_call g (j := 0) (gi := g__law_draw) rfl rfl rfl rfl (by decide +kernel) rfl (a_cons rfl (gE_var g (by decide +kernel)) (a_cons rfl e_int a_nil)))).eB)) s_nil) (s_seq (s_if (gT_cmp g rfl rfl (gB_var g (by decide +kernel)) (e_int).eB) (s_seq (gS_set g (by decide +kernel) (by decide +kernel) rfl ((gE_call g (j := 0) (gi := g__law_draw) rfl rfl rfl rfl (by decide +kernel) rfl (a_cons rfl (gE_var g (by decide +kernel)) (a_cons rfl ((gP_bin g rfl (e_int).eB (e_int).eB)).pE a_nil)))).eP) s_nil) (s_seq (gS_set g (by decide +kernel) (by decide +kernel) rfl ((gE_call g (j := 1) (gi := g__law_far) rfl rfl rfl rfl (by decide +kernel) rfl (a_cons rfl (gE_var g (by decide +kernel)) a_nil))).eP) s_nil)) s_nil)) s_nil)) (s_seq (s_ret (e_ifE (gT_cmp g rfl rfl ((gE_call g (j := 0) (gi := g__law_draw) rfl rfl rfl rfl (by decide +kernel) rfl (a_cons rfl (gE_var g (by decide +kernel)) (a_cons rfl e_int a_nil)))).eB (e_int).eB) (gE_var g (by decide +kernel)) ((gP_neg g (gB_var g (by decide +kernel)))).pE)) s_nil)))
def C__law_with_rest : Ct := ⟨N__law_with_rest, defScope s__law_with_rest, defScope s__law_with_rest, [g__law_draw, g__law_far], [], ["int"]⟩
theorem sc__law_with_rest : FnScope N__law_with_rest ["bag", "q", "rest"] (defScope s__law_with_rest) := ⟨rfl, rfl, rfl, by decide +kernel, rfl, by decide +kernel, by decide +kernel⟩
theorem w__law_with_rest {X : Cx} {c : Cc} (g : Good CX0 X c C__law_with_rest) : PSs X (defBody s__law_with_rest) (tS c m__law_with_rest) :=
  (s_seq (gS_par2 g (by decide +kernel) (by decide +kernel) (by decide) (by decide +kernel) (by decide +kernel) rfl (l_cons rfl ((gE_call g (j := 0) (gi := g__law_draw) rfl rfl rfl rfl (by decide +kernel) rfl (a_cons rfl (gE_var g (by decide +kernel)) (a_cons rfl e_int a_nil)))).eP (l_cons rfl (gP_bin g rfl (((gP_bin g rfl (((gP_bin g rfl (e_int).eB (e_int).eB)).pE).eB (gB_var g (by decide +kernel)))).pE).eB (e_int).eB) l_nil))) (s_seq (s_if (gT_cmp g rfl rfl (gB_var g (by decide +kernel)) (e_int).eB) (s_seq (s_ret (gE_var g (by decide +kernel))) s_nil) s_nil) (s_seq (s_if (gT_cmp g rfl rfl (gB_var g (by decide +kernel)) (e_int).eB) (s_seq (s_ret ((gP_bin g rfl (gB_var g (by decide +kernel)) (((gP_bin g rfl (gB_var g (by decide +kernel)) (((gP_bin g rfl (e_int).eB ((gE_call g (j := 0) (gi := g__law_draw) rfl rfl rfl rfl (by decide +kernel) rfl (a_cons rfl (gE_var g (by decide +kernel)) (a_cons rfl e_int a_nil)))).eB)).pE).eB)).pE).eB)).pE) s_nil) s_nil) (s_seq (gS_set g (by decide +kernel) (by decide +kernel) rfl (gP_bin g rfl (((gP_bi g rfl (by decide +kernel) (by decide +kernel) rfl (ab_cons rfl ((gE_call g (j := 1) (gi := g__law_far) rfl rfl rfl rfl (by decide +kernel) rfl (a_cons rfl (gE_var g (by decide +kernel)) a_nil))).eB ab_nil))).pE).eB (((gP_bin g rfl (gB_var g (by decide +kernel)) (e_int).eB)).pE).eB)) (s_seq (s_if (gT_cmp g rfl rfl (gB_var g (by decide +kernel)) (e_int).eB) (s_seq (gS_set g (by decide +kernel) (by decide +kernel) rfl (gP_bin g rfl (gB_var g (by decide +kernel)) (gB_var g (by decide +kernel)))) s_nil) s_nil) (s_seq (s_ret (e_ifE (gT_cmp g rfl rfl ((gE_call g (j := 0) (gi := g__law_draw) rfl rfl rfl rfl (by decide +kernel) rfl (a_cons rfl (gE_var g (by decide +kernel)) (a_cons rfl e_int a_nil)))).eB (e_int).eB) ((gP_bin g rfl (gB_var g (by decide +kernel)) (((gP_bin g rfl (gB_var g (by decide +kernel)) (gB_var g (by decide +kernel)))).pE).eB)).pE ((gP_bin g rfl (gB_var g (by decide +kernel)) (((gP_bin g rfl (gB_var g (by decide +kernel)) (gB_var g (by decide +kernel)))).pE).eB)).pE)) s_nil))))))
def C__law_same : Ct := ⟨N__law_same, defScope s__law_same, defScope s__law_same, [], [], ["repr"]⟩
theorem sc__law_same : FnScope N__law_same ["told", "due"] (defScope s__law_same) := ⟨rfl, rfl, rfl, by decide +kernel, rfl, by decide +kernel, by decide +kernel⟩
theorem w__law_same {X : Cx} {c : Cc} (g : Good CX0 X c C__law_same) : PSs X (defBody s__law_same) (tS c m__law_same) :=
  (s_seq (s_ret (e_and ((gP_cmp g rfl rfl (((gP_bi g rfl (by decide +kernel) (by decide +kernel) rfl (ab_cons rfl (gB_var g (by decide +kernel)) ab_nil))).pE).eB (((gP_bi g rfl (by decide +kernel) (by decide +kernel) rfl (ab_cons rfl (gB_var g (by decide +kernel)) ab_nil))).pE).eB)).pE (e_and1 ((gP_cmp g rfl rfl (gB_var g (by decide +kernel)) (gB_var g (by decide +kernel)))).pE))) s_nil)
def C__law_roots : Ct := ⟨N__law_roots, defScope s__law_roots, defScope s__law_roots, [], [], ["reversed", "list", "range", "int"]⟩
theorem sc__law_roots : FnScope N__law_roots ["q"] (defScope s__law_roots) := ⟨rfl, rfl, rfl, by decide +kernel, rfl, by decide +kernel, by decide +kernel⟩
theorem w__law_roots {X : Cx} {c : Cc} (g : Good CX0 X c C__law_roots) : PSs X (defBody s__law_roots) (tS c m__law_roots) :=
  (s_seq (gS_set g (by decide +kernel) (by decide +kernel) rfl (gP_bin g rfl (((p_lst (a_cons rfl e_non a_nil))).pE).eB (gB_var g (by decide +kernel)))) (s_seq (gS_for g rfl (gI_rv g (by decide +kernel) (by decide +kernel) rfl ((gP_lr1 g (by decide +kernel) (by decide +kernel) (by decide +kernel) (by decide +kernel) rfl (gE_var g (by decide +kernel)))).pE) (gG_name g (by decide +kernel) (by decide +kernel)) (s_seq (gS_st g (by decide +kernel) rfl ((gE_var g (by decide +kernel))).eX ((gP_bin g rfl (((gP_bi g rfl (by decide +kernel) (by decide +kernel) rfl (ab_cons rfl (((gP_bin g rfl (gB_var g (by decide +kernel)) (gB_var g (by decide +kernel)))).pE).eB ab_nil))).pE).eB (gB_var g (by decide +kernel)))).pE) s_nil)) (s_seq (s_ret (gE_var g (by decide +kernel))) s_nil)))
def C__law_signs : Ct := ⟨N__law_signs, defScope s__law_signs, defScope s__law_signs, [g__law_roots], [], []⟩
theorem sc__law_signs : FnScope N__law_signs ["q"] (defScope s__law_signs) := ⟨rfl, rfl, rfl, by decide +kernel, rfl, by decide +kernel, by decide +kernel⟩
theorem w__law_signs {X : Cx} {c : Cc} (g : Good CX0 X c C__law_signs) : PSs X (defBody s__law_signs) (tS c m__law_signs) :=
  (s_seq (s_ret ((gP_bin g rfl (((p_lst (a_cons rfl e_int a_nil))).pE).eB (((gP_lc g (own := [("root", 1)]) (by decide +kernel) rfl rfl rfl (gI_seq g ((gP_sl g ((gE_call g (j := 0) (gi := g__law_roots) rfl rfl rfl rfl (by decide +kernel) rfl (a_cons rfl (gE_var g (by decide +kernel)) a_nil))).eB (o_some e_int) o_none)).pE) (fun h1 => (gG_name h1 (by decide +kernel) (by decide +kernel))) (fun h1 => gT_none) (fun h1 => (e_ifE (gT_cmp h1 rfl rfl (gB_var h1 (by decide +kernel)) (e_non).eB) e_int ((gP_neg h1 (e_int).eB)).pE)))).pE).eB)).pE) s_nil)
def C__law_rests : Ct := ⟨N__law_rests, defScope s__law_rests, defScope s__law_rests, [g__law_draw, g__law_pick, g__law_roots], [], ["enumerate"]⟩
theorem sc__law_rests : FnScope N__law_rests ["bag", "q", "kind"] (defScope s__law_rests) := ⟨rfl, rfl, rfl, by decide +kernel, rfl, by decide +kernel, by decide +kernel⟩
theorem w__law_rests {X : Cx} {c : Cc} (g : Good CX0 X c C__law_rests) : PSs X (defBody s__law_rests) (tS c m__law_rests) :=
  (s_seq (gS_par2 g (by decide +kernel) (by decide +kernel) (by decide) (by decide +kernel) (by decide +kernel) rfl (l_cons rfl (gP_bin g rfl (e_int).eB ((gE_call g (j := 0) (gi := g__law_draw) rfl rfl rfl rfl (by decide +kernel) rfl (a_cons rfl (gE_var g (by decide +kernel)) (a_cons rfl ((gP_bin g rfl (gB_var g (by decide +kernel)) (e_int).eB)).pE a_nil)))).eB) (l_cons rfl ((gE_call g (j := 0) (gi := g__law_draw) rfl rfl rfl rfl (by decide +kernel) rfl (a_cons rfl (gE_var g (by decide +kernel)) (a_cons rfl (gE_var g (by decide +kernel)) a_nil)))).eP l_nil))) (s_seq (gS_set g (by decide +kernel) (by decide +kernel) rfl (gP_bin g rfl (((gP_bin g rfl (gB_var g (by decide +kernel)) (e_int).eB)).pE).eB ((gE_call g (j := 0) (gi := g__law_draw) rfl rfl rfl rfl (by decide +kernel) rfl (a_cons rfl (gE_var g (by decide +kernel)) (a_cons rfl ((gP_bin g rfl (gB_var g (by decide +kernel)) (e_int).eB)).pE a_nil)))).eB)) (s_seq (s_if (gT_cmp g rfl rfl (gB_var g (by decide +kernel)) (e_int).eB) (s_seq (s_ret ((p_lst (a_cons rfl (gE_var g (by decide +kernel)) (a_cons rfl ((gP_bin g rfl (((gP_bin g rfl (((gP_neg g (e_int).eB)).pE).eB (gB_var g (by decide +kernel)))).pE).eB (gB_var g (by decide +kernel)))).pE (a_cons rfl ((gP_bin g rfl (((gP_bin g rfl (gB_var g (by decide +kernel)) (gB_var g (by decide +kernel)))).pE).eB (gB_var g (by decide +kernel)))).pE a_nil))))).pE) s_nil) s_nil) (s_seq (s_if (gT_cmp g rfl rfl (gB_var g (by decide +kernel)) (e_int).eB) (s_seq (s_ret ((p_lst (a_cons rfl (gE_var g (by decide +kernel)) (a_cons rfl ((gP_bin g rfl (((gP_neg g (gB_var g (by decide +kernel)))).pE).eB (((gP_bin g rfl (gB_var g (by decide +kernel)) (gB_var g (by decide +kernel)))).pE).eB)).pE (a_cons rfl ((gP_bin g rfl (((gP_bin g rfl (gB_var g (by decide +kernel)) (gB_var g (by decide +kernel)))).pE).eB (gB_var g (by decide +kernel)))).pE a_nil))))).pE) s_nil) s_nil) (s_seq (s_if (gT_cmp g rfl rfl (gB_var g (by decide +kernel)) (e_int).eB) (s_seq (gS_set g (by decide +kernel) (by decide +kernel) rfl ((gE_call g (j := 1) (gi := g__law_pick) rfl rfl rfl rfl (by decide +kernel) rfl (a_cons rfl (gE_var g (by decide +kernel)) (a_cons rfl ((gP_lc g (own := [("rest", 7), ("root", 8)]) (by decide +kernel) rfl rfl rfl (gI_enu g (by decide +kernel) (by decide +kernel) rfl (a_cons rfl (gE_call g (j := 2) (gi := g__law_roots) rfl rfl rfl rfl (by decide +kernel) rfl (a_cons rfl (gE_var g (by decide +kernel)) a_nil)) a_nil)) (fun h1 => (gG_tup h1 rfl rfl (g_cons rfl (gG_name h1 (by decide +kernel) (by decide +kernel)) (g_cons rfl (gG_name h1 (by decide +kernel) (by decide +kernel)) g_nil)))) (fun h1 => (gT_one (gT_cmp h1 rfl rfl (gB_var h1 (by decide +kernel)) (e_non).eB))) (fun h1 => (gE_var h1 (by decide +kernel))))).pE a_nil)))).eP) (s_seq (s_ret ((p_lst (a_cons rfl (gE_var g (by decide +kernel)) (a_cons rfl ((gP_bin g rfl (((gP_bin g rfl (((gP_neg g (e_int).eB)).pE).eB (gB_var g (by decide +kernel)))).pE).eB (gB_var g (by decide +kernel)))).pE (a_cons rfl ((gP_bin g rfl (gB_var g (by decide +kernel)) (((gP_bin g rfl (((gP_bin g rfl (gB_var g (by decide +kernel)) (gB_var g (by decide +kernel)))).pE).eB (gB_var g (by decide +kernel)))).pE).eB)).pE a_nil))))).pE) s_nil)) s_nil) (s_seq (s_if (gT_cmp g rfl rfl (gB_var g (by decide +kernel)) (e_int).eB) (s_seq (s_ret ((p_lst (a_cons rfl e_int (a_cons rfl (gE_var g (by decide +kernel)) (a_cons rfl (gE_var g (by decide +kernel)) a_nil))))).pE) s_nil) s_nil) (s_seq (s_if (gT_cmp g rfl rfl (gB_var g (by decide +kernel)) (e_int).eB) (s_seq (s_ret ((p_lst (a_cons rfl e_int (a_cons rfl e_int (a_cons rfl (gE_var g (by decide +kernel)) a_nil))))).pE) s_nil) s_nil) (s_seq (s_if (gT_cmp g rfl rfl (gB_var g (by decide +kernel)) (e_int).eB) (s_seq (s_ret ((p_lst (a_cons rfl e_int (a_cons rfl e_int (a_cons rfl e_int a_nil))))).pE) s_nil) s_nil) (s_seq (s_if (gT_cmp g rfl rfl (gB_var g (by decide +kernel)) (e_int).eB) (s_seq (s_ret ((p_lst (a_cons rfl (gE_var g (by decide +kernel)) (a_cons rfl e_int (a_cons rfl (gE_var g (by decide +kernel)) a_nil))))).pE) s_nil) s_nil) (s_seq (s_ret ((p_lst (a_cons rfl (gE_call g (j := 0) (gi := g__law_draw) rfl rfl rfl rfl (by decide +kernel) rfl (a_cons rfl (gE_var g (by decide +kernel)) (a_cons rfl (gE_var g (by decide +kernel)) a_nil))) (a_cons rfl (gE_call g (j := 0) (gi := g__law_draw) rfl rfl rfl rfl (by decide +kernel) rfl (a_cons rfl (gE_var g (by decide +kernel)) (a_cons rfl (gE_var g (by decide +kernel)) a_nil))) (a_cons rfl (gE_call g (j := 0) (gi := g__law_draw) rfl rfl rfl rfl (by decide +kernel) rfl (a_cons rfl (gE_var g (by decide +kernel)) (a_cons rfl (gE_var g (by decide +kernel)) a_nil))) a_nil))))).pE) s_nil))))))))))
def C__law_formula : Ct := ⟨N__law_formula, defScope s__law_formula, defScope s__law_formula, [g__law_rests, g__law_with_rest, g__law_great], [], ["int"]⟩
theorem sc__law_formula : FnScope N__law_formula ["bag", "q", "kind"] (defScope s__law_formula) := ⟨rfl, rfl, rfl, by decide +kernel, rfl, by decide +kernel, by decide +kernel⟩
theorem w__law_formula {X : Cx} {c : Cc} (g : Good CX0 X c C__law_formula) : PSs X (defBody s__law_formula) (tS c m__law_formula) :=
  (s_seq (s_if (gT_cmp g rfl rfl (gB_var g (by decide +kernel)) (e_int).eB) (s_seq (s_ret ((p_lst (a_cons rfl (gE_call g (j := 2) (gi := g__law_great) rfl rfl rfl rfl (by decide +kernel) rfl (a_cons rfl (gE_var g (by decide +kernel)) a_nil)) (a_cons rfl (gE_call g (j := 2) (gi := g__law_great) rfl rfl rfl rfl (by decide +kernel) rfl (a_cons rfl (gE_var g (by decide +kernel)) a_nil)) (a_cons rfl (gE_call g (j := 2) (gi := g__law_great) rfl rfl rfl rfl (by decide +kernel) rfl (a_cons rfl (gE_var g (by decide +kernel)) a_nil)) a_nil))))).pE) s_nil) s_nil) (s_seq (s_ret ((gP_lc g (own := [("rest", 3)]) (by decide +kernel) rfl rfl rfl (gI_seq g (gE_call g (j := 0) (gi := g__law_rests) rfl rfl rfl rfl (by decide +kernel) rfl (a_cons rfl (gE_var g (by decide +kernel)) (a_cons rfl (gE_var g (by decide +kernel)) (a_cons rfl (gE_var g (by decide +kernel)) a_nil))))) (fun h1 => (gG_name h1 (by decide +kernel) (by decide +kernel))) (fun h1 => gT_none) (fun h1 => (gE_call h1 (j := 1) (gi := g__law_with_rest) rfl rfl rfl rfl (by decide +kernel) rfl (a_cons rfl (gE_var h1 (by decide +kernel)) (a_cons rfl (gE_var h1 (by decide +kernel)) (a_cons rfl ((gP_bin h1 rfl (((gP_bi h1 rfl (by decide +kernel) (by decide +kernel) rfl (ab_cons rfl (gB_var h1 (by decide +kernel)) ab_nil))).pE).eB (gB_var h1 (by decide +kernel)))).pE a_nil))))))).pE) s_nil))
def C__law_ways : Ct := ⟨N__law_ways, defScope s__law_ways, defScope s__law_ways, [], [], ["range", "int"]⟩
theorem sc__law_ways : FnScope N__law_ways ["q"] (defScope s__law_ways) := ⟨rfl, rfl, rfl, by decide +kernel, rfl, by decide +kernel, by decide +kernel⟩
theorem w__law_ways {X : Cx} {c : Cc} (g : Good CX0 X c C__law_ways) : PSs X (defBody s__law_ways) (tS c m__law_ways) :=
  (s_seq (gS_set g (by decide +kernel) (by decide +kernel) rfl (gP_bin g rfl (((p_lst (a_cons rfl e_int a_nil))).pE).eB (gB_var g (by decide +kernel)))) (s_seq (gS_for g rfl (gI_rng1 g (by decide +kernel) (by decide +kernel) rfl (a_cons rfl (gE_var g (by decide +kernel)) a_nil)) (gG_name g (by decide +kernel) (by decide +kernel)) (s_seq (gS_set g (by decide +kernel) (by decide +kernel) rfl (gP_bin g rfl (((gP_bi g rfl (by decide +kernel) (by decide +kernel) rfl (ab_cons rfl (((gP_bin g rfl (gB_var g (by decide +kernel)) (gB_var g (by decide +kernel)))).pE).eB ab_nil))).pE).eB (gB_var g (by decide +kernel)))) (s_seq (gS_st g (by decide +kernel) rfl (((gP_bin g rfl (((gP_ix g rfl (gB_var g (by decide +kernel)) (gB_var g (by decide +kernel)))).pE).eB (e_int).eB)).pE).eX (gE_var g (by decide +kernel))) s_nil))) (s_seq (s_ret (gE_var g (by decide +kernel))) s_nil)))
def C__law_own_count : Ct := ⟨N__law_own_count, defScope s__law_own_count, defScope s__law_own_count, [], [], ["sum", "range", "int"]⟩
theorem sc__law_own_count : FnScope N__law_own_count ["q", "ways", "number"] (defScope s__law_own_count) := ⟨rfl, rfl, rfl, by decide +kernel, rfl, by decide +kernel, by decide +kernel⟩
theorem w__law_own_count {X : Cx} {c : Cc} (g : Good CX0 X c C__law_own_count) : PSs X (defBody s__law_own_count) (tS c m__law_own_count) :=
  (s_seq (gS_set g (by decide +kernel) (by decide +kernel) rfl (gP_bin g rfl (((gP_bi g rfl (by decide +kernel) (by decide +kernel) rfl (ab_cons rfl (gB_var g (by decide +kernel)) ab_nil))).pE).eB (gB_var g (by decide +kernel)))) (s_seq (s_ret ((gP_bi g rfl (by decide +kernel) (by decide +kernel) rfl (ab_cons rfl (((gP_lc g (own := [("k", 4)]) (by decide +kernel) rfl rfl rfl (gI_rng1 g (by decide +kernel) (by decide +kernel) rfl (a_cons rfl (gE_var g (by decide +kernel)) a_nil)) (fun h1 => (gG_name h1 (by decide +kernel) (by decide +kernel))) (fun h1 => gT_none) (fun h1 => ((gP_bin h1 rfl (((gP_ix h1 rfl (gB_var h1 (by decide +kernel)) (gB_var h1 (by decide +kernel)))).pE).eB (((gP_ix h1 rfl (gB_var h1 (by decide +kernel)) (((gP_bin h1 rfl (gB_var h1 (by decide +kernel)) (gB_var h1 (by decide +kernel)))).pE).eB)).pE).eB)).pE))).pE).eB ab_nil))).pE) s_nil))
def C__law_is_count_right : Ct := ⟨N__law_is_count_right, defScope s__law_is_count_right, defScope s__law_is_count_right, [g__law_same, g_square_sign, g_circle_count, g__law_own_count], [], ["int"]⟩
theorem sc__law_is_count_right : FnScope N__law_is_count_right ["q", "ways", "number", "is_named"] (defScope s__law_is_count_right) := ⟨rfl, rfl, rfl, by decide +kernel, rfl, by decide +kernel, by decide +kernel⟩
theorem w__law_is_count_right {X : Cx} {c : Cc} (g : Good CX0 X c C__law_is_count_right) : PSs X (defBody s__law_is_count_right) (tS c m__law_is_count_right) :=
  (s_seq (gS_par2 g (by decide +kernel) (by decide +kernel) (by decide) (by decide +kernel) (by decide +kernel) rfl (l_cons rfl ((gE_call g (j := 3) (gi := g__law_own_count) rfl rfl rfl rfl (by decide +kernel) rfl (a_cons rfl (gE_var g (by decide +kernel)) (a_cons rfl (gE_var g (by decide +kernel)) (a_cons rfl (gE_var g (by decide +kernel)) a_nil))))).eP (l_cons rfl ((e_ifE (gT_cmp g rfl rfl (((gP_ix g rfl (gB_var g (by decide +kernel)) (((gP_bin g rfl (gB_var g (by decide +kernel)) (e_int).eB)).pE).eB)).pE).eB (e_int).eB) e_int ((gP_neg g (e_int).eB)).pE)).eP l_nil))) (s_seq (gS_set g (by decide +kernel) (by decide +kernel) rfl ((e_ifE (gT_tru g rfl (gB_var g (by decide +kernel))) (gE_callK g (j := 2) (gi := g_circle_count) (ks := ["q", "number"]) (perm := [0, 1]) rfl rfl rfl rfl (by decide +kernel) (by decide) rfl rfl rfl (k_cons (gE_var g (by decide +kernel)) (k_cons (gE_var g (by decide +kernel)) k_nil))) (gE_call g (j := 2) (gi := g_circle_count) rfl rfl rfl rfl (by decide +kernel) rfl (a_cons rfl (gE_var g (by decide +kernel)) (a_cons rfl (gE_var g (by decide +kernel)) a_nil))))).eP) (s_seq (s_if (t_not (gT_tru g rfl ((gE_call g (j := 0) (gi := g__law_same) rfl rfl rfl rfl (by decide +kernel) rfl (a_cons rfl ((p_lst (a_cons rfl (gE_var g (by decide +kernel)) (a_cons rfl (gE_call g (j := 1) (gi := g_square_sign) rfl rfl rfl rfl (by decide +kernel) rfl (a_cons rfl (gE_var g (by decide +kernel)) (a_cons rfl ((gP_neg g (e_int).eB)).pE a_nil))) a_nil)))).pE (a_cons rfl ((p_lst (a_cons rfl (gE_var g (by decide +kernel)) (a_cons rfl (gE_var g (by decide +kernel)) a_nil)))).pE a_nil)))).eB)) (s_seq (s_ret e_bl) s_nil) s_nil) (s_seq (s_ret ((gP_cmp g rfl rfl (gB_var g (by decide +kernel)) ((e_ifE (gT_cmp g rfl rfl (((gP_bin g rfl (((gP_bi g rfl (by decide +kernel) (by decide +kernel) rfl (ab_cons rfl (gB_var g (by decide +kernel)) ab_nil))).pE).eB (gB_var g (by decide +kernel)))).pE).eB (e_int).eB) ((gP_bin g rfl (gB_var g (by decide +kernel)) (gB_var g (by decide +kernel)))).pE ((gP_bin g rfl (gB_var g (by decide +kernel)) (((gP_bin g rfl (((gP_bin g rfl (gB_var g (by decide +kernel)) (e_int).eB)).pE).eB (gB_var g (by decide +kernel)))).pE).eB)).pE)).eB)).pE) s_nil))))
def C__law_are_all_right : Ct := ⟨N__law_are_all_right, defScope s__law_are_all_right, defScope s__law_are_all_right, [g_circle_count, g__law_is_count_right, g__law_with_rest, g__law_ways], [], ["range"]⟩
theorem sc__law_are_all_right : FnScope N__law_are_all_right ["bag", "q"] (defScope s__law_are_all_right) := ⟨rfl, rfl, rfl, by decide +kernel, rfl, by decide +kernel, by decide +kernel⟩
theorem w__law_are_all_right {X : Cx} {c : Cc} (g : Good CX0 X c C__law_are_all_right) : PSs X (defBody s__law_are_all_right) (tS c m__law_are_all_right) :=
  (s_seq (gS_par2 g (by decide +kernel) (by decide +kernel) (by decide) (by decide +kernel) (by decide +kernel) rfl (l_cons rfl ((gE_call g (j := 3) (gi := g__law_ways) rfl rfl rfl rfl (by decide +kernel) rfl (a_cons rfl (gE_var g (by decide +kernel)) a_nil))).eP (l_cons rfl (e_int).eP l_nil))) (s_seq (gS_for g rfl (gI_rng1 g (by decide +kernel) (by decide +kernel) rfl (a_cons rfl (gE_var g (by decide +kernel)) a_nil)) (gG_name g (by decide +kernel) (by decide +kernel)) (s_seq (gS_set g (by decide +kernel) (by decide +kernel) rfl ((gE_call g (j := 2) (gi := g__law_with_rest) rfl rfl rfl rfl (by decide +kernel) rfl (a_cons rfl (gE_var g (by decide +kernel)) (a_cons rfl (gE_var g (by decide +kernel)) (a_cons rfl (gE_var g (by decide +kernel)) a_nil))))).eP) (s_seq (s_if (t_not (gT_tru g rfl ((gE_call g (j := 1) (gi := g__law_is_count_right) rfl rfl rfl rfl (by decide +kernel) rfl (a_cons rfl (gE_var g (by decide +kernel)) (a_cons rfl (gE_var g (by decide +kernel)) (a_cons rfl (gE_var g (by decide +kernel)) (a_cons rfl ((gP_cmp g rfl rfl (((gP_bin g rfl (gB_var g (by decide +kernel)) (e_int).eB)).pE).eB (e_int).eB)).pE a_nil)))))).eB)) (s_seq (s_ret e_bl) s_nil) s_nil) (s_seq (gS_set g (by decide +kernel) (by decide +kernel) rfl (gP_bin g rfl (gB_var g (by decide +kernel)) ((gE_call g (j := 0) (gi := g_circle_count) rfl rfl rfl rfl (by decide +kernel) rfl (a_cons rfl (gE_var g (by decide +kernel)) (a_cons rfl (gE_var g (by decide +kernel)) a_nil)))).eB)) s_nil)))) (s_seq (s_ret ((gP_cmp g rfl rfl (gB_var g (by decide +kernel)) (((gP_bin g rfl (gB_var g (by decide +kernel)) (gB_var g (by decide +kernel)))).pE).eB)).pE) s_nil)))
def C__law_own_found : Ct := ⟨N__law_own_found, defScope s__law_own_found, defScope s__law_own_found, [], [], ["len", "range", "int"]⟩
theorem sc__law_own_found : FnScope N__law_own_found ["q", "rests"] (defScope s__law_own_found) := ⟨rfl, rfl, rfl, by decide +kernel, rfl, by decide +kernel, by decide +kernel⟩
theorem w__law_own_found {X : Cx} {c : Cc} (g : Good CX0 X c C__law_own_found) : PSs X (defBody s__law_own_found) (tS c m__law_own_found) :=
  (s_seq (s_asg (gE_var g (by decide +kernel)) (gG_tup g rfl rfl (g_cons rfl (gG_name g (by decide +kernel) (by decide +kernel)) (g_cons rfl (gG_name g (by decide +kernel) (by decide +kernel)) (g_cons rfl (gG_name g (by decide +kernel) (by decide +kernel)) g_nil)))) rfl rfl) (s_seq (s_ret ((gP_bi g rfl (by decide +kernel) (by decide +kernel) rfl (ab_cons rfl (((gP_lc g (own := [("x", 5)]) (by decide +kernel) rfl rfl rfl (gI_rng1 g (by decide +kernel) (by decide +kernel) rfl (a_cons rfl (gE_var g (by decide +kernel)) a_nil)) (fun h1 => (gG_name h1 (by decide +kernel) (by decide +kernel))) (fun h1 => (gT_one (gT_cmp h1 rfl rfl (((gP_bin h1 rfl (((gP_bi h1 rfl (by decide +kernel) (by decide +kernel) rfl (ab_cons rfl (((gP_bin h1 rfl (((gP_bin h1 rfl (((gP_bin h1 rfl (((gP_bin h1 rfl (gB_var h1 (by decide +kernel)) (gB_var h1 (by decide +kernel)))).pE).eB (gB_var h1 (by decide +kernel)))).pE).eB (((gP_bin h1 rfl (gB_var h1 (by decide +kernel)) (gB_var h1 (by decide +kernel)))).pE).eB)).pE).eB (gB_var h1 (by decide +kernel)))).pE).eB ab_nil))).pE).eB (gB_var h1 (by decide +kernel)))).pE).eB (e_int).eB))) (fun h1 => e_int))).pE).eB ab_nil))).pE) s_nil))
def C__law_are_found_right : Ct := ⟨N__law_are_found_right, defScope s__law_are_found_right, defScope s__law_are_found_right, [g__law_same, g_square_sign, g__law_signs, g_formula_roots, g__law_own_found], [], ["int"]⟩
theorem sc__law_are_found_right : FnScope N__law_are_found_right ["q", "formula", "is_named"] (defScope s__law_are_found_right) := ⟨rfl, rfl, rfl, by decide +kernel, rfl, by decide +kernel, by decide +kernel⟩
theorem w__law_are_found_right {X : Cx} {c : Cc} (g : Good CX0 X c C__law_are_found_right) : PSs X (defBody s__law_are_found_right) (tS c m__law_are_found_right) :=
  (s_seq (s_asg (gE_var g (by decide +kernel)) (gG_tup g rfl rfl (g_cons rfl (gG_name g (by decide +kernel) (by decide +kernel)) (g_cons rfl (gG_name g (by decide +kernel) (by decide +kernel)) (g_cons rfl (gG_name g (by decide +kernel) (by decide +kernel)) g_nil)))) rfl rfl) (s_seq (gS_setLc g (by decide +kernel) (by decide +kernel) rfl (by decide +kernel) (own := [("number", 7)]) (by decide +kernel) rfl rfl rfl (gI_seq g (gE_var g (by decide +kernel))) (fun h1 => (gG_name h1 (by decide +kernel) (by decide +kernel))) (fun h1 => gT_none) (fun h1 => ((gP_bin h1 rfl (((gP_bi h1 rfl (by decide +kernel) (by decide +kernel) rfl (ab_cons rfl (gB_var h1 (by decide +kernel)) ab_nil))).pE).eB (gB_var h1 (by decide +kernel)))).pE)) (s_seq (gS_set g (by decide +kernel) (by decide +kernel) rfl ((gE_call g (j := 4) (gi := g__law_own_found) rfl rfl rfl rfl (by decide +kernel) rfl (a_cons rfl (gE_var g (by decide +kernel)) (a_cons rfl (gE_var g (by decide +kernel)) a_nil)))).eP) (s_seq (gS_set g (by decide +kernel) (by decide +kernel) rfl ((e_ifE (gT_tru g rfl (gB_var g (by decide +kernel))) (gE_callK g (j := 3) (gi := g_formula_roots) (ks := ["c", "b", "a", "q"]) (perm := [3, 2, 1, 0]) rfl rfl rfl rfl (by decide +kernel) (by decide) rfl rfl rfl (k_cons (gE_var g (by decide +kernel)) (k_cons (gE_var g (by decide +kernel)) (k_cons (gE_var g (by decide +kernel)) (k_cons (gE_var g (by decide +kernel)) k_nil))))) (gE_call g (j := 3) (gi := g_formula_roots) rfl rfl rfl rfl (by decide +kernel) rfl (a_cons rfl (gE_var g (by decide +kernel)) (a_cons rfl (gE_var g (by decide +kernel)) (a_cons rfl (gE_var g (by decide +kernel)) (a_cons rfl (gE_var g (by decide +kernel)) a_nil))))))).eP) (s_seq (s_if (t_not (gT_tru g rfl ((gE_call g (j := 0) (gi := g__law_same) rfl rfl rfl rfl (by decide +kernel) rfl (a_cons rfl (gE_var g (by decide +kernel)) (a_cons rfl (gE_var g (by decide +kernel)) a_nil)))).eB)) (s_seq (s_ret e_bl) s_nil) s_nil) (s_seq (s_if (gT_cmp g rfl rfl (((gP_ix g rfl (gB_var g (by decide +kernel)) (e_int).eB)).pE).eB (e_int).eB) (s_seq (s_ret ((gP_cmp g rfl rfl (gB_var g (by decide +kernel)) ((e_ifE (gT_cmp g rfl rfl (((gP_ix g rfl (gB_var g (by decide +kernel)) (e_int).eB)).pE).eB (e_int).eB) e_int (e_ifE (gT_cmp g rfl rfl (((gP_ix g rfl (gB_var g (by decide +kernel)) (e_int).eB)).pE).eB (e_int).eB) e_int (gE_var g (by decide +kernel))))).eB)).pE) s_nil) s_nil) (s_seq (gS_set g (by decide +kernel) (by decide +kernel) rfl (gP_bin g rfl (((gP_bin g rfl (((gP_ix g rfl (gB_var g (by decide +kernel)) (e_int).eB)).pE).eB (((gP_ix g rfl (gB_var g (by decide +kernel)) (e_int).eB)).pE).eB)).pE).eB (((gP_bin g rfl (((gP_bin g rfl (e_int).eB (((gP_ix g rfl (gB_var g (by decide +kernel)) (e_int).eB)).pE).eB)).pE).eB (((gP_ix g rfl (gB_var g (by decide +kernel)) (e_int).eB)).pE).eB)).pE).eB)) (s_seq (gS_set g (by decide +kernel) (by decide +kernel) rfl (gP_ix g rfl ((gE_call g (j := 2) (gi := g__law_signs) rfl rfl rfl rfl (by decide +kernel) rfl (a_cons rfl (gE_var g (by decide +kernel)) a_nil))).eB (((gP_bin g rfl (((gP_bi g rfl (by decide +kernel) (by decide +kernel) rfl (ab_cons rfl (gB_var g (by decide +kernel)) ab_nil))).pE).eB (gB_var g (by decide +kernel)))).pE).eB)) (s_seq (s_ret (e_and ((gP_cmp g rfl rfl (gB_var g (by decide +kernel)) (((gP_bin g rfl (e_int).eB (gB_var g (by decide +kernel)))).pE).eB)).pE (e_and1 (gE_call g (j := 0) (gi := g__law_same) rfl rfl rfl rfl (by decide +kernel) rfl (a_cons rfl (gE_call g (j := 1) (gi := g_square_sign) rfl rfl rfl rfl (by decide +kernel) rfl (a_cons rfl (gE_var g (by decide +kernel)) (a_cons rfl (gE_var g (by decide +kernel)) a_nil))) (a_cons rfl (gE_var g (by decide +kernel)) a_nil)))))) s_nil)))))))))
def C_law : Ct := ⟨N_law, defScope s_law, defScope s_law, [g__law_is_count_right, g__law_are_found_right, g__law_are_all_right, g__law_with_rest, g__law_pick, g__law_formula, g__law_primes, g__law_draw, g__law_ways, g__law_great, g__law_some_primes, g__law_own_bag], [], ["range", "enumerate", "int"]⟩
theorem sc_law : FnScope N_law ["script"] (defScope s_law) := ⟨rfl, rfl, rfl, by decide +kernel, rfl, by decide +kernel, by decide +kernel⟩
theorem w_law {X : Cx} {c : Cc} (g : Good CX0 X c C_law) : PSs X (defBody s_law) (tS c m_law) :=
  (s_seq (gS_set g (by decide +kernel) (by decide +kernel) rfl ((gE_call g (j := 11) (gi := g__law_own_bag) rfl rfl rfl rfl (by decide +kernel) rfl (a_cons rfl (gE_var g (by decide +kernel)) a_nil))).eP) (s_seq (gS_par2 g (by decide +kernel) (by decide +kernel) (by decide) (by decide +kernel) (by decide +kernel) rfl (l_cons rfl ((gE_call g (j := 10) (gi := g__law_some_primes) rfl rfl rfl rfl (by decide +kernel) rfl (a_cons rfl (gE_var g (by decide +kernel)) (a_cons rfl (gE_call0 g (j := 6) (gi := g__law_primes) rfl rfl rfl rfl (by decide +kernel)) (a_cons rfl e_int a_nil))))).eP (l_cons rfl ((gE_call g (j := 4) (gi := g__law_pick) rfl rfl rfl rfl (by decide +kernel) rfl (a_cons rfl (gE_var g (by decide +kernel)) (a_cons rfl ((p_lst (a_cons rfl e_int (a_cons rfl e_int (a_cons rfl e_int (a_cons rfl e_int (a_cons rfl e_int a_nil))))))).pE a_nil)))).eP l_nil))) (s_seq (s_asg (gE_var g (by decide +kernel)) (gG_tup g rfl rfl (g_cons rfl (gG_name g (by decide +kernel) (by decide +kernel)) (g_cons rfl (gG_name g (by decide +kernel) (by decide +kernel)) g_nil))) rfl rfl) (s_seq (gS_par2 g (by decide +kernel) (by decide +kernel) (by decide) (by decide +kernel) (by decide +kernel) rfl (l_cons rfl ((gE_call g (j := 9) (gi := g__law_great) rfl rfl rfl rfl (by decide +kernel) rfl (a_cons rfl (gE_var g (by decide +kernel)) a_nil))).eP (l_cons rfl ((gE_call g (j := 7) (gi := g__law_draw) rfl rfl rfl rfl (by decide +kernel) rfl (a_cons rfl (gE_var g (by decide +kernel)) (a_cons rfl e_int a_nil)))).eP l_nil))) (s_seq (gS_par2 g (by decide +kernel) (by decide +kernel) (by decide) (by decide +kernel) (by decide +kernel) rfl (l_cons rfl ((gE_call g (j := 5) (gi := g__law_formula) rfl rfl rfl rfl (by decide +kernel) rfl (a_cons rfl (gE_var g (by decide +kernel)) (a_cons rfl (gE_var g (by decide +kernel)) (a_cons rfl (gE_var g (by decide +kernel)) a_nil))))).eP (l_cons rfl ((gE_call g (j := 8) (gi := g__law_ways) rfl rfl rfl rfl (by decide +kernel) rfl (a_cons rfl (gE_var g (by decide +kernel)) a_nil))).eP l_nil))) (s_seq (s_if ((w_or (t_not (gT_tru g rfl ((gE_call g (j := 0) (gi := g__law_is_count_right) rfl rfl rfl rfl (by decide +kernel) rfl (a_cons rfl (gE_var g (by decide +kernel)) (a_cons rfl (gE_var g (by decide +kernel)) (a_cons rfl (gE_var g (by decide +kernel)) (a_cons rfl e_bl a_nil)))))).eB)) (pw_or1 (t_not (gT_tru g rfl ((gE_call g (j := 1) (gi := g__law_are_found_right) rfl rfl rfl rfl (by decide +kernel) rfl (a_cons rfl (gE_var g (by decide +kernel)) (a_cons rfl (gE_var g (by decide +kernel)) (a_cons rfl e_bl a_nil))))).eB))))).pt (s_seq (s_ret e_bl) s_nil) s_nil) (s_seq (gS_for g rfl (gI_enu g (by decide +kernel) (by decide +kernel) rfl (a_cons rfl (gE_call0 g (j := 6) (gi := g__law_primes) rfl rfl rfl rfl (by decide +kernel)) a_nil)) (gG_tup g rfl rfl (g_cons rfl (gG_name g (by decide +kernel) (by decide +kernel)) (g_cons rfl (gG_name g (by decide +kernel) (by decide +kernel)) g_nil))) (s_seq (gS_set g (by decide +kernel) (by decide +kernel) rfl ((gE_call g (j := 7) (gi := g__law_draw) rfl rfl rfl rfl (by decide +kernel) rfl (a_cons rfl (gE_var g (by decide +kernel)) (a_cons rfl e_int a_nil)))).eP) (s_seq (gS_set g (by decide +kernel) (by decide +kernel) rfl ((e_ifE (gT_cmp g rfl rfl (gB_var g (by decide +kernel)) (e_int).eB) (gE_call g (j := 9) (gi := g__law_great) rfl rfl rfl rfl (by decide +kernel) rfl (a_cons rfl (gE_var g (by decide +kernel)) a_nil)) (gE_call g (j := 3) (gi := g__law_with_rest) rfl rfl rfl rfl (by decide +kernel) rfl (a_cons rfl (gE_var g (by decide +kernel)) (a_cons rfl (gE_var g (by decide +kernel)) (a_cons rfl (e_ifE (gT_cmp g rfl rfl (gB_var g (by decide +kernel)) (e_int).eB) e_int (gE_call g (j := 7) (gi := g__law_draw) rfl rfl rfl rfl (by decide +kernel) rfl (a_cons rfl (gE_var g (by decide +kernel)) (a_cons rfl (gE_var g (by decide +kernel)) a_nil)))) a_nil)))))).eP) (s_seq (s_if (t_not (gT_tru g rfl ((gE_call g (j := 0) (gi := g__law_is_count_right) rfl rfl rfl rfl (by decide +kernel) rfl (a_cons rfl (gE_var g (by decide +kernel)) (a_cons rfl (gE_call g (j := 8) (gi := g__law_ways) rfl rfl rfl rfl (by decide +kernel) rfl (a_cons rfl (gE_var g (by decide +kernel)) a_nil)) (a_cons rfl (gE_var g (by decide +kernel)) (a_cons rfl ((gP_cmp g rfl rfl (((gP_bin g rfl (gB_var g (by decide +kernel)) (e_int).eB)).pE).eB (e_int).eB)).pE a_nil)))))).eB)) (s_seq (s_ret e_bl) s_nil) s_nil) (s_seq (gS_for g rfl (gI_seq g ((p_lst (a_cons rfl (gE_call g (j := 5) (gi := g__law_formula) rfl rfl rfl rfl (by decide +kernel) rfl (a_cons rfl (gE_var g (by decide +kernel)) (a_cons rfl (gE_var g (by decide +kernel)) (a_cons rfl ((gP_bin g rfl (((gP_bi g rfl (by decide +kernel) (by decide +kernel) rfl (ab_cons rfl (((gP_bin g rfl (gB_var g (by decide +kernel)) (gB_var g (by decide +kernel)))).pE).eB ab_nil))).pE).eB (e_int).eB)).pE a_nil)))) (a_cons rfl (gE_call g (j := 5) (gi := g__law_formula) rfl rfl rfl rfl (by decide +kernel) rfl (a_cons rfl (gE_var g (by decide +kernel)) (a_cons rfl (gE_var g (by decide +kernel)) (a_cons rfl (gE_call g (j := 7) (gi := g__law_draw) rfl rfl rfl rfl (by decide +kernel) rfl (a_cons rfl (gE_var g (by decide +kernel)) (a_cons rfl e_int a_nil))) a_nil)))) a_nil)))).pE) (gG_name g (by decide +kernel) (by decide +kernel)) (s_seq (s_if (t_not (gT_tru g rfl ((gE_call g (j := 1) (gi := g__law_are_found_right) rfl rfl rfl rfl (by decide +kernel) rfl (a_cons rfl (gE_var g (by decide +kernel)) (a_cons rfl (gE_var g (by decide +kernel)) (a_cons rfl ((gP_cmp g rfl rfl (((gP_bin g rfl (gB_var g (by decide +kernel)) (e_int).eB)).pE).eB (e_int).eB)).pE a_nil))))).eB)) (s_seq (s_ret e_bl) s_nil) s_nil) s_nil)) s_nil))))) (s_seq (gS_for g rfl (gI_rng1 g (by decide +kernel) (by decide +kernel) rfl (a_cons rfl e_int a_nil)) (gG_name g (by decide +kernel) (by decide +kernel)) (s_seq (s_if (t_not (gT_tru g rfl ((gE_call g (j := 1) (gi := g__law_are_found_right) rfl rfl rfl rfl (by decide +kernel) rfl (a_cons rfl (gE_var g (by decide +kernel)) (a_cons rfl (gE_call g (j := 5) (gi := g__law_formula) rfl rfl rfl rfl (by decide +kernel) rfl (a_cons rfl (gE_var g (by decide +kernel)) (a_cons rfl (gE_var g (by decide +kernel)) (a_cons rfl (gE_var g (by decide +kernel)) a_nil)))) (a_cons rfl ((gP_cmp g rfl rfl (((gP_bin g rfl (gB_var g (by decide +kernel)) (e_int).eB)).pE).eB (e_int).eB)).pE a_nil))))).eB)) (s_seq (s_ret e_bl) s_nil) s_nil) s_nil)) (s_seq (gS_setLc g (by decide +kernel) (by decide +kernel) rfl (by decide +kernel) (own := [("k", 10)]) (by decide +kernel) rfl rfl rfl (gI_rng1 g (by decide +kernel) (by decide +kernel) rfl (a_cons rfl e_int a_nil)) (fun h2 => (gG_name h2 (by decide +kernel) (by decide +kernel))) (fun h2 => gT_none) (fun h2 => (gE_call h2 (j := 4) (gi := g__law_pick) rfl rfl rfl rfl (by decide +kernel) rfl (a_cons rfl (gE_var h2 (by decide +kernel)) (a_cons rfl ((p_lst (a_cons rfl ((gP_bin h2 rfl (e_int).eB (e_int).eB)).pE (a_cons rfl ((gP_neg h2 (((gP_bin h2 rfl (e_int).eB (e_int).eB)).pE).eB)).pE (a_cons rfl e_int a_nil))))).pE a_nil))))) (s_seq (gS_setLc g (by decide +kernel) (by decide +kernel) rfl (by decide +kernel) (own := [("k", 10)]) (by decide +kernel) rfl rfl rfl (gI_rng1 g (by decide +kernel) (by decide +kernel) rfl (a_cons rfl e_int a_nil)) (fun h1 => (gG_name h1 (by decide +kernel) (by decide +kernel))) (fun h1 => gT_none) (fun h1 => (gE_call h1 (j := 4) (gi := g__law_pick) rfl rfl rfl rfl (by decide +kernel) rfl (a_cons rfl (gE_var h1 (by decide +kernel)) (a_cons rfl ((p_lst (a_cons rfl e_int (a_cons rfl (gE_var h1 (by decide +kernel)) (a_cons rfl ((gP_neg h1 (gB_var h1 (by decide +kernel)))).pE (a_cons rfl e_int a_nil)))))).pE a_nil))))) (s_seq (gS_for g rfl (gI_seq g ((p_lst (a_cons rfl (gE_var g (by decide +kernel)) (a_cons rfl (gE_var g (by decide +kernel)) (a_cons rfl ((p_lst (a_cons rfl e_int (a_cons rfl e_int (a_cons rfl e_int a_nil))))).pE (a_cons rfl ((p_lst (a_cons rfl e_int (a_cons rfl e_int (a_cons rfl (gE_var g (by decide +kernel)) a_nil))))).pE (a_cons rfl ((p_lst (a_cons rfl e_int (a_cons rfl ((gP_neg g (gB_var g (by decide +kernel)))).pE (a_cons rfl e_int a_nil))))).pE (a_cons rfl ((p_lst (a_cons rfl (gE_var g (by decide +kernel)) (a_cons rfl e_int (a_cons rfl e_int a_nil))))).pE a_nil)))))))).pE) (gG_name g (by decide +kernel) (by decide +kernel)) (s_seq (s_if (t_not (gT_tru g rfl ((gE_call g (j := 1) (gi := g__law_are_found_right) rfl rfl rfl rfl (by decide +kernel) rfl (a_cons rfl (gE_var g (by decide +kernel)) (a_cons rfl (gE_var g (by decide +kernel)) (a_cons rfl ((gP_cmp g rfl rfl (gB_var g (by decide +kernel)) (gB_var g (by decide +kernel)))).pE a_nil))))).eB)) (s_seq (s_ret e_bl) s_nil) s_nil) s_nil)) (s_seq (gS_set g (by decide +kernel) (by decide +kernel) rfl ((gE_call g (j := 4) (gi := g__law_pick) rfl rfl rfl rfl (by decide +kernel) rfl (a_cons rfl (gE_var g (by decide +kernel)) (a_cons rfl ((p_lst (a_cons rfl ((gP_bin g rfl (e_int).eB (e_int).eB)).pE (a_cons rfl ((gP_neg g (((gP_bin g rfl (e_int).eB (e_int).eB)).pE).eB)).pE a_nil)))).pE a_nil)))).eP) (s_seq (gS_for g rfl (gI_seq g ((p_lst (a_cons rfl (gE_call g (j := 3) (gi := g__law_with_rest) rfl rfl rfl rfl (by decide +kernel) rfl (a_cons rfl (gE_var g (by decide +kernel)) (a_cons rfl (gE_var g (by decide +kernel)) (a_cons rfl e_int a_nil)))) (a_cons rfl (gE_call g (j := 3) (gi := g__law_with_rest) rfl rfl rfl rfl (by decide +kernel) rfl (a_cons rfl (gE_var g (by decide +kernel)) (a_cons rfl (gE_var g (by decide +kernel)) (a_cons rfl ((gP_bin g rfl (gB_var g (by decide +kernel)) (e_int).eB)).pE a_nil)))) (a_cons rfl (gE_var g (by decide +kernel)) a_nil))))).pE) (gG_name g (by decide +kernel) (by decide +kernel)) (s_seq (s_if (t_not (gT_tru g rfl ((gE_call g (j := 0) (gi := g__law_is_count_right) rfl rfl rfl rfl (by decide +kernel) rfl (a_cons rfl (gE_var g (by decide +kernel)) (a_cons rfl (gE_var g (by decide +kernel)) (a_cons rfl (gE_var g (by decide +kernel)) (a_cons rfl e_bl a_nil)))))).eB)) (s_seq (s_ret e_bl) s_nil) s_nil) s_nil)) (s_seq (s_if (t_not (gT_tru g rfl ((gE_call g (j := 2) (gi := g__law_are_all_right) rfl rfl rfl rfl (by decide +kernel) rfl (a_cons rfl (gE_var g (by decide +kernel)) (a_cons rfl (gE_var g (by decide +kernel)) a_nil)))).eB)) (s_seq (s_ret e_bl) s_nil) s_nil) (s_seq (s_ret (e_and (gE_call g (j := 0) (gi := g__law_is_count_right) rfl rfl rfl rfl (by decide +kernel) rfl (a_cons rfl (gE_var g (by decide +kernel)) (a_cons rfl (gE_var g (by decide +kernel)) (a_cons rfl (gE_var g (by decide +kernel)) (a_cons rfl e_bl a_nil))))) (e_and1 (gE_call g (j := 1) (gi := g__law_are_found_right) rfl rfl rfl rfl (by decide +kernel) rfl (a_cons rfl (gE_var g (by decide +kernel)) (a_cons rfl (gE_var g (by decide +kernel)) (a_cons rfl e_bl a_nil))))))) s_nil)))))))))))))))
end
section
variable {P : Program} {w : World} {K : PySem.W.Frag} {mg : Str → Option Value} {base : Heap}
theorem ok_square_sign {f : Addr} {fd : FuncData} (F : Fun K "square_sign" "square_sign" s_square_sign f fd) (hm : mg "square_sign" = some (.ref f)) (z0 : mg "any" = none) (z1 : mg "range" = none) : Ok P w K mg base CX0 noXR 1 g_square_sign :=
  mkOk (C := C_square_sign) F hm sc_square_sign rfl rfl rfl (F.binds (ps := ["q", "number"]) fun _ _ _ _ _ _ us hl => match us, hl with | [_, _], _ => rfl) all_nil all_nil (all_cons (p := fun b => mg b = none) z0 (all_cons (p := fun b => mg b = none) z1 all_nil)) all_nil w_square_sign
theorem ok_formula_rests {f : Addr} {fd : FuncData} (F : Fun K "formula_rests" "formula_rests" s_formula_rests f fd) (hm : mg "formula_rests" = some (.ref f)) (z0 : mg "range" = none) : Ok P w K mg base CX0 noXR 1 g_formula_rests :=
  mkOk (C := C_formula_rests) F hm sc_formula_rests rfl rfl rfl (F.binds (ps := ["q", "a", "b", "c"]) fun _ _ _ _ _ _ us hl => match us, hl with | [_, _, _, _], _ => rfl) all_nil all_nil (all_cons (p := fun b => mg b = none) z0 all_nil) all_nil w_formula_rests
theorem ok_circle_count {f : Addr} {fd : FuncData} (F : Fun K "circle_count" "circle_count" s_circle_count f fd) (hm : mg "circle_count" = some (.ref f)) (z0 : mg "range" = none) : Ok P w K mg base CX0 noXR 1 g_circle_count :=
  mkOk (C := C_circle_count) F hm sc_circle_count rfl rfl rfl (F.binds (ps := ["q", "number"]) fun _ _ _ _ _ _ us hl => match us, hl with | [_, _], _ => rfl) (all_cons (fun s ws _ hl => F.kbinds (ks := ["q", "number"]) (pm := [0, 1]) (fun _ _ _ _ _ _ us hl => match us, hl with | [_, _], _ => rfl) s ws hl) all_nil) all_nil (all_cons (p := fun b => mg b = none) z0 all_nil) all_nil w_circle_count
theorem ok_formula_roots {f : Addr} {fd : FuncData} (F : Fun K "formula_roots" "formula_roots" s_formula_roots f fd) (hm : mg "formula_roots" = some (.ref f)) (d0 : Ok P w K mg base CX0 noXR 1 g_formula_rests) : Ok P w K mg base CX0 noXR 2 g_formula_roots :=
  mkOk (C := C_formula_roots) F hm sc_formula_roots rfl rfl rfl (F.binds (ps := ["q", "a", "b", "c"]) fun _ _ _ _ _ _ us hl => match us, hl with | [_, _, _, _], _ => rfl) (all_cons (fun s ws _ hl => F.kbinds (ks := ["c", "b", "a", "q"]) (pm := [3, 2, 1, 0]) (fun _ _ _ _ _ _ us hl => match us, hl with | [_, _, _, _], _ => rfl) s ws hl) all_nil) (all_cons (p := fun g => Ok P w K mg base CX0 noXR 1 g) (d0.up (by decide)) all_nil) all_nil all_nil w_formula_roots
theorem ok__law_own_bag {f : Addr} {fd : FuncData} (F : Fun K "_law_own_bag" "_law_own_bag" s__law_own_bag f fd) (hm : mg "_law_own_bag" = some (.ref f)) (z0 : mg "list" = none) (z1 : mg "reversed" = none) (z2 : mg "int" = none) (z3 : mg "len" = none) (z4 : mg "abs" = none) : Ok P w K mg base CX0 noXR 1 g__law_own_bag :=
  mkOk (C := C__law_own_bag) F hm sc__law_own_bag rfl rfl rfl (F.binds (ps := ["script"]) fun _ _ _ _ _ _ us hl => match us, hl with | [_], _ => rfl) all_nil all_nil (all_cons (p := fun b => mg b = none) z0 (all_cons (p := fun b => mg b = none) z1 (all_cons (p := fun b => mg b = none) z2 (all_cons (p := fun b => mg b = none) z3 (all_cons (p := fun b => mg b = none) z4 all_nil))))) all_nil w__law_own_bag
theorem ok__law_draw {f : Addr} {fd : FuncData} (F : Fun K "_law_draw" "_law_draw" s__law_draw f fd) (hm : mg "_law_draw" = some (.ref f)) (z0 : mg "int" = none) : Ok P w K mg base CX0 noXR 1 g__law_draw :=
  mkOk (C := C__law_draw) F hm sc__law_draw rfl rfl rfl (F.binds (ps := ["bag", "below"]) fun _ _ _ _ _ _ us hl => match us, hl with | [_, _], _ => rfl) all_nil all_nil (all_cons (p := fun b => mg b = none) z0 all_nil) all_nil w__law_draw
theorem ok__law_pick {f : Addr} {fd : FuncData} (F : Fun K "_law_pick" "_law_pick" s__law_pick f fd) (hm : mg "_law_pick" = some (.ref f)) (d0 : Ok P w K mg base CX0 noXR 1 g__law_draw) (z0 : mg "len" = none) : Ok P w K mg base CX0 noXR 2 g__law_pick :=
  mkOk (C := C__law_pick) F hm sc__law_pick rfl rfl rfl (F.binds (ps := ["bag", "some"]) fun _ _ _ _ _ _ us hl => match us, hl with | [_, _], _ => rfl) all_nil (all_cons (p := fun g => Ok P w K mg base CX0 noXR 1 g) (d0.up (by decide)) all_nil) (all_cons (p := fun b => mg b = none) z0 all_nil) all_nil w__law_pick
theorem ok__law_primes {f : Addr} {fd : FuncData} (F : Fun K "_law_primes" "_law_primes" s__law_primes f fd) (hm : mg "_law_primes" = some (.ref f))  : Ok P w K mg base CX0 noXR 1 g__law_primes :=
  mkOk (C := C__law_primes) F hm sc__law_primes rfl rfl rfl (F.binds (ps := []) fun _ _ _ _ _ _ us hl => match us, hl with | [], _ => rfl) all_nil all_nil all_nil all_nil w__law_primes
theorem ok__law_some_primes {f : Addr} {fd : FuncData} (F : Fun K "_law_some_primes" "_law_some_primes" s__law_some_primes f fd) (hm : mg "_law_some_primes" = some (.ref f)) (d0 : Ok P w K mg base CX0 noXR 1 g__law_draw) (z0 : mg "range" = none) (z1 : mg "int" = none) (z2 : mg "len" = none) : Ok P w K mg base CX0 noXR 2 g__law_some_primes :=
  mkOk (C := C__law_some_primes) F hm sc__law_some_primes rfl rfl rfl (F.binds (ps := ["bag", "some", "many"]) fun _ _ _ _ _ _ us hl => match us, hl with | [_, _, _], _ => rfl) all_nil (all_cons (p := fun g => Ok P w K mg base CX0 noXR 1 g) (d0.up (by decide)) all_nil) (all_cons (p := fun b => mg b = none) z0 (all_cons (p := fun b => mg b = none) z1 (all_cons (p := fun b => mg b = none) z2 all_nil))) all_nil w__law_some_primes
theorem ok__law_far {f : Addr} {fd : FuncData} (F : Fun K "_law_far" "_law_far" s__law_far f fd) (hm : mg "_law_far" = some (.ref f)) (d0 : Ok P w K mg base CX0 noXR 1 g__law_draw) : Ok P w K mg base CX0 noXR 2 g__law_far :=
  mkOk (C := C__law_far) F hm sc__law_far rfl rfl rfl (F.binds (ps := ["bag"]) fun _ _ _ _ _ _ us hl => match us, hl with | [_], _ => rfl) all_nil (all_cons (p := fun g => Ok P w K mg base CX0 noXR 1 g) (d0.up (by decide)) all_nil) all_nil all_nil w__law_far
theorem ok__law_great {f : Addr} {fd : FuncData} (F : Fun K "_law_great" "_law_great" s__law_great f fd) (hm : mg "_law_great" = some (.ref f)) (d0 : Ok P w K mg base CX0 noXR 1 g__law_draw) (d1 : Ok P w K mg base CX0 noXR 2 g__law_far) : Ok P w K mg base CX0 noXR 3 g__law_great :=
  mkOk (C := C__law_great) F hm sc__law_great rfl rfl rfl (F.binds (ps := ["bag"]) fun _ _ _ _ _ _ us hl => match us, hl with | [_], _ => rfl) all_nil (all_cons (p := fun g => Ok P w K mg base CX0 noXR 2 g) (d0.up (by decide)) (all_cons (p := fun g => Ok P w K mg base CX0 noXR 2 g) (d1.up (by decide)) all_nil)) all_nil all_nil w__law_great
theorem ok__law_with_rest {f : Addr} {fd : FuncData} (F : Fun K "_law_with_rest" "_law_with_rest" s__law_with_rest f fd) (hm : mg "_law_with_rest" = some (.ref f)) (d0 : Ok P w K mg base CX0 noXR 1 g__law_draw) (d1 : Ok P w K mg base CX0 noXR 2 g__law_far) (z0 : mg "int" = none) : Ok P w K mg base CX0 noXR 3 g__law_with_rest :=
  mkOk (C := C__law_with_rest) F hm sc__law_with_rest rfl rfl rfl (F.binds (ps := ["bag", "q", "rest"]) fun _ _ _ _ _ _ us hl => match us, hl with | [_, _, _], _ => rfl) all_nil (all_cons (p := fun g => Ok P w K mg base CX0 noXR 2 g) (d0.up (by decide)) (all_cons (p := fun g => Ok P w K mg base CX0 noXR 2 g) (d1.up (by decide)) all_nil)) (all_cons (p := fun b => mg b = none) z0 all_nil) all_nil w__law_with_rest
theorem ok__law_same {f : Addr} {fd : FuncData} (F : Fun K "_law_same" "_law_same" s__law_same f fd) (hm : mg "_law_same" = some (.ref f)) (z0 : mg "repr" = none) : Ok P w K mg base CX0 noXR 1 g__law_same :=
  mkOk (C := C__law_same) F hm sc__law_same rfl rfl rfl (F.binds (ps := ["told", "due"]) fun _ _ _ _ _ _ us hl => match us, hl with | [_, _], _ => rfl) all_nil all_nil (all_cons (p := fun b => mg b = none) z0 all_nil) all_nil w__law_same
theorem ok__law_roots {f : Addr} {fd : FuncData} (F : Fun K "_law_roots" "_law_roots" s__law_roots f fd) (hm : mg "_law_roots" = some (.ref f)) (z0 : mg "reversed" = none) (z1 : mg "list" = none) (z2 : mg "range" = none) (z3 : mg "int" = none) : Ok P w K mg base CX0 noXR 1 g__law_roots :=
  mkOk (C := C__law_roots) F hm sc__law_roots rfl rfl rfl (F.binds (ps := ["q"]) fun _ _ _ _ _ _ us hl => match us, hl with | [_], _ => rfl) all_nil all_nil (all_cons (p := fun b => mg b = none) z0 (all_cons (p := fun b => mg b = none) z1 (all_cons (p := fun b => mg b = none) z2 (all_cons (p := fun b => mg b = none) z3 all_nil)))) all_nil w__law_roots
theorem ok__law_signs {f : Addr} {fd : FuncData} (F : Fun K "_law_signs" "_law_signs" s__law_signs f fd) (hm : mg "_law_signs" = some (.ref f)) (d0 : Ok P w K mg base CX0 noXR 1 g__law_roots) : Ok P w K mg base CX0 noXR 2 g__law_signs :=
  mkOk (C := C__law_signs) F hm sc__law_signs rfl rfl rfl (F.binds (ps := ["q"]) fun _ _ _ _ _ _ us hl => match us, hl with | [_], _ => rfl) all_nil (all_cons (p := fun g => Ok P w K mg base CX0 noXR 1 g) (d0.up (by decide)) all_nil) all_nil all_nil w__law_signs
theorem ok__law_rests {f : Addr} {fd : FuncData} (F : Fun K "_law_rests" "_law_rests" s__law_rests f fd) (hm : mg "_law_rests" = some (.ref f)) (d0 : Ok P w K mg base CX0 noXR 1 g__law_draw) (d1 : Ok P w K mg base CX0 noXR 2 g__law_pick) (d2 : Ok P w K mg base CX0 noXR 1 g__law_roots) (z0 : mg "enumerate" = none) : Ok P w K mg base CX0 noXR 3 g__law_rests :=
  mkOk (C := C__law_rests) F hm sc__law_rests rfl rfl rfl (F.binds (ps := ["bag", "q", "kind"]) fun _ _ _ _ _ _ us hl => match us, hl with | [_, _, _], _ => rfl) all_nil (all_cons (p := fun g => Ok P w K mg base CX0 noXR 2 g) (d0.up (by decide)) (all_cons (p := fun g => Ok P w K mg base CX0 noXR 2 g) (d1.up (by decide)) (all_cons (p := fun g => Ok P w K mg base CX0 noXR 2 g) (d2.up (by decide)) all_nil))) (all_cons (p := fun b => mg b = none) z0 all_nil) all_nil w__law_rests
theorem ok__law_formula {f : Addr} {fd : FuncData} (F : Fun K "_law_formula" "_law_formula" s__law_formula f fd) (hm : mg "_law_formula" = some (.ref f)) (d0 : Ok P w K mg base CX0 noXR 3 g__law_rests) (d1 : Ok P w K mg base CX0 noXR 3 g__law_with_rest) (d2 : Ok P w K mg base CX0 noXR 3 g__law_great) (z0 : mg "int" = none) : Ok P w K mg base CX0 noXR 4 g__law_formula :=
  mkOk (C := C__law_formula) F hm sc__law_formula rfl rfl rfl (F.binds (ps := ["bag", "q", "kind"]) fun _ _ _ _ _ _ us hl => match us, hl with | [_, _, _], _ => rfl) all_nil (all_cons (p := fun g => Ok P w K mg base CX0 noXR 3 g) (d0.up (by decide)) (all_cons (p := fun g => Ok P w K mg base CX0 noXR 3 g) (d1.up (by decide)) (all_cons (p := fun g => Ok P w K mg base CX0 noXR 3 g) (d2.up (by decide)) all_nil))) (all_cons (p := fun b => mg b = none) z0 all_nil) all_nil w__law_formula
theorem ok__law_ways {f : Addr} {fd : FuncData} (F : Fun K "_law_ways" "_law_ways" s__law_ways f fd) (hm : mg "_law_ways" = some (.ref f)) (z0 : mg "range" = none) (z1 : mg "int" = none) : Ok P w K mg base CX0 noXR 1 g__law_ways :=
  mkOk (C := C__law_ways) F hm sc__law_ways rfl rfl rfl (F.binds (ps := ["q"]) fun _ _ _ _ _ _ us hl => match us, hl with | [_], _ => rfl) all_nil all_nil (all_cons (p := fun b => mg b = none) z0 (all_cons (p := fun b => mg b = none) z1 all_nil)) all_nil w__law_ways
theorem ok__law_own_count {f : Addr} {fd : FuncData} (F : Fun K "_law_own_count" "_law_own_count" s__law_own_count f fd) (hm : mg "_law_own_count" = some (.ref f)) (z0 : mg "sum" = none) (z1 : mg "range" = none) (z2 : mg "int" = none) : Ok P w K mg base CX0 noXR 1 g__law_own_count :=
  mkOk (C := C__law_own_count) F hm sc__law_own_count rfl rfl rfl (F.binds (ps := ["q", "ways", "number"]) fun _ _ _ _ _ _ us hl => match us, hl with | [_, _, _], _ => rfl) all_nil all_nil (all_cons (p := fun b => mg b = none) z0 (all_cons (p := fun b => mg b = none) z1 (all_cons (p := fun b => mg b = none) z2 all_nil))) all_nil w__law_own_count
theorem ok__law_is_count_right {f : Addr} {fd : FuncData} (F : Fun K "_law_is_count_right" "_law_is_count_right" s__law_is_count_right f fd) (hm : mg "_law_is_count_right" = some (.ref f)) (d0 : Ok P w K mg base CX0 noXR 1 g__law_same) (d1 : Ok P w K mg base CX0 noXR 1 g_square_sign) (d2 : Ok P w K mg base CX0 noXR 1 g_circle_count) (d3 : Ok P w K mg base CX0 noXR 1 g__law_own_count) (z0 : mg "int" = none) : Ok P w K mg base CX0 noXR 2 g__law_is_count_right :=
  mkOk (C := C__law_is_count_right) F hm sc__law_is_count_right rfl rfl rfl (F.binds (ps := ["q", "ways", "number", "is_named"]) fun _ _ _ _ _ _ us hl => match us, hl with | [_, _, _, _], _ => rfl) all_nil (all_cons (p := fun g => Ok P w K mg base CX0 noXR 1 g) (d0.up (by decide)) (all_cons (p := fun g => Ok P w K mg base CX0 noXR 1 g) (d1.up (by decide)) (all_cons (p := fun g => Ok P w K mg base CX0 noXR 1 g) (d2.up (by decide)) (all_cons (p := fun g => Ok P w K mg base CX0 noXR 1 g) (d3.up (by decide)) all_nil)))) (all_cons (p := fun b => mg b = none) z0 all_nil) all_nil w__law_is_count_right
theorem ok__law_are_all_right {f : Addr} {fd : FuncData} (F : Fun K "_law_are_all_right" "_law_are_all_right" s__law_are_all_right f fd) (hm : mg "_law_are_all_right" = some (.ref f)) (d0 : Ok P w K mg base CX0 noXR 1 g_circle_count) (d1 : Ok P w K mg base CX0 noXR 2 g__law_is_count_right) (d2 : Ok P w K mg base CX0 noXR 3 g__law_with_rest) (d3 : Ok P w K mg base CX0 noXR 1 g__law_ways) (z0 : mg "range" = none) : Ok P w K mg base CX0 noXR 4 g__law_are_all_right :=
  mkOk (C := C__law_are_all_right) F hm sc__law_are_all_right rfl rfl rfl (F.binds (ps := ["bag", "q"]) fun _ _ _ _ _ _ us hl => match us, hl with | [_, _], _ => rfl) all_nil (all_cons (p := fun g => Ok P w K mg base CX0 noXR 3 g) (d0.up (by decide)) (all_cons (p := fun g => Ok P w K mg base CX0 noXR 3 g) (d1.up (by decide)) (all_cons (p := fun g => Ok P w K mg base CX0 noXR 3 g) (d2.up (by decide)) (all_cons (p := fun g => Ok P w K mg base CX0 noXR 3 g) (d3.up (by decide)) all_nil)))) (all_cons (p := fun b => mg b = none) z0 all_nil) all_nil w__law_are_all_right
theorem ok__law_own_found {f : Addr} {fd : FuncData} (F : Fun K "_law_own_found" "_law_own_found" s__law_own_found f fd) (hm : mg "_law_own_found" = some (.ref f)) (z0 : mg "len" = none) (z1 : mg "range" = none) (z2 : mg "int" = none) : Ok P w K mg base CX0 noXR 1 g__law_own_found :=
  mkOk (C := C__law_own_found) F hm sc__law_own_found rfl rfl rfl (F.binds (ps := ["q", "rests"]) fun _ _ _ _ _ _ us hl => match us, hl with | [_, _], _ => rfl) all_nil all_nil (all_cons (p := fun b => mg b = none) z0 (all_cons (p := fun b => mg b = none) z1 (all_cons (p := fun b => mg b = none) z2 all_nil))) all_nil w__law_own_found
theorem ok__law_are_found_right {f : Addr} {fd : FuncData} (F : Fun K "_law_are_found_right" "_law_are_found_right" s__law_are_found_right f fd) (hm : mg "_law_are_found_right" = some (.ref f)) (d0 : Ok P w K mg base CX0 noXR 1 g__law_same) (d1 : Ok P w K mg base CX0 noXR 1 g_square_sign) (d2 : Ok P w K mg base CX0 noXR 2 g__law_signs) (d3 : Ok P w K mg base CX0 noXR 2 g_formula_roots) (d4 : Ok P w K mg base CX0 noXR 1 g__law_own_found) (z0 : mg "int" = none) : Ok P w K mg base CX0 noXR 3 g__law_are_found_right :=
  mkOk (C := C__law_are_found_right) F hm sc__law_are_found_right rfl rfl rfl (F.binds (ps := ["q", "formula", "is_named"]) fun _ _ _ _ _ _ us hl => match us, hl with | [_, _, _], _ => rfl) all_nil (all_cons (p := fun g => Ok P w K mg base CX0 noXR 2 g) (d0.up (by decide)) (all_cons (p := fun g => Ok P w K mg base CX0 noXR 2 g) (d1.up (by decide)) (all_cons (p := fun g => Ok P w K mg base CX0 noXR 2 g) (d2.up (by decide)) (all_cons (p := fun g => Ok P w K mg base CX0 noXR 2 g) (d3.up (by decide)) (all_cons (p := fun g => Ok P w K mg base CX0 noXR 2 g) (d4.up (by decide)) all_nil))))) (all_cons (p := fun b => mg b = none) z0 all_nil) all_nil w__law_are_found_right
theorem ok_law {f : Addr} {fd : FuncData} (F : Fun K "law" "law" s_law f fd) (hm : mg "law" = some (.ref f)) (d0 : Ok P w K mg base CX0 noXR 2 g__law_is_count_right) (d1 : Ok P w K mg base CX0 noXR 3 g__law_are_found_right) (d2 : Ok P w K mg base CX0 noXR 4 g__law_are_all_right) (d3 : Ok P w K mg base CX0 noXR 3 g__law_with_rest) (d4 : Ok P w K mg base CX0 noXR 2 g__law_pick) (d5 : Ok P w K mg base CX0 noXR 4 g__law_formula) (d6 : Ok P w K mg base CX0 noXR 1 g__law_primes) (d7 : Ok P w K mg base CX0 noXR 1 g__law_draw) (d8 : Ok P w K mg base CX0 noXR 1 g__law_ways) (d9 : Ok P w K mg base CX0 noXR 3 g__law_great) (d10 : Ok P w K mg base CX0 noXR 2 g__law_some_primes) (d11 : Ok P w K mg base CX0 noXR 1 g__law_own_bag) (z0 : mg "range" = none) (z1 : mg "enumerate" = none) (z2 : mg "int" = none) : Ok P w K mg base CX0 noXR 5 g_law :=
  mkOk (C := C_law) F hm sc_law rfl rfl rfl (F.binds (ps := ["script"]) fun _ _ _ _ _ _ us hl => match us, hl with | [_], _ => rfl) all_nil (all_cons (p := fun g => Ok P w K mg base CX0 noXR 4 g) (d0.up (by decide)) (all_cons (p := fun g => Ok P w K mg base CX0 noXR 4 g) (d1.up (by decide)) (all_cons (p := fun g => Ok P w K mg base CX0 noXR 4 g) (d2.up (by decide)) (all_cons (p := fun g => Ok P w K mg base CX0 noXR 4 g) (d3.up (by decide)) (all_cons (p := fun g => Ok P w K mg base CX0 noXR 4 g) (d4.up (by decide)) (all_cons (p := fun g => Ok P w K mg base CX0 noXR 4 g) (d5.up (by decide)) (all_cons (p := fun g => Ok P w K mg base CX0 noXR 4 g) (d6.up (by decide)) (all_cons (p := fun g => Ok P w K mg base CX0 noXR 4 g) (d7.up (by decide)) (all_cons (p := fun g => Ok P w K mg base CX0 noXR 4 g) (d8.up (by decide)) (all_cons (p := fun g => Ok P w K mg base CX0 noXR 4 g) (d9.up (by decide)) (all_cons (p := fun g => Ok P w K mg base CX0 noXR 4 g) (d10.up (by decide)) (all_cons (p := fun g => Ok P w K mg base CX0 noXR 4 g) (d11.up (by decide)) all_nil)))))))))))) (all_cons (p := fun b => mg b = none) z0 (all_cons (p := fun b => mg b = none) z1 (all_cons (p := fun b => mg b = none) z2 all_nil))) all_nil w_law
end
theorem all_mk {P : Program} {w : World} {K : PySem.W.Frag} {h : Heap} {mg : Str → Option Value} (X : K.In h) (G : h.Ns mainGlobals mg)
    {f0 : Addr} {oc0 : Value} {od0 an0 : Option Addr} {sl0 : Array (Option Value)} {kV0 dc0 pm0 cd0 ct0 : Value}
    {f1 : Addr} {oc1 : Value} {od1 an1 : Option Addr} {sl1 : Array (Option Value)} {kV1 dc1 pm1 cd1 ct1 : Value}
    {f2 : Addr} {oc2 : Value} {od2 an2 : Option Addr} {sl2 : Array (Option Value)} {kV2 dc2 pm2 cd2 ct2 : Value}
    {f3 : Addr} {oc3 : Value} {od3 an3 : Option Addr} {sl3 : Array (Option Value)} {kV3 dc3 pm3 cd3 ct3 : Value}
    {f4 : Addr} {oc4 : Value} {od4 an4 : Option Addr} {sl4 : Array (Option Value)} {kV4 dc4 pm4 cd4 ct4 : Value}
    {f5 : Addr} {oc5 : Value} {od5 an5 : Option Addr} {sl5 : Array (Option Value)} {kV5 dc5 pm5 cd5 ct5 : Value}
    {f6 : Addr} {oc6 : Value} {od6 an6 : Option Addr} {sl6 : Array (Option Value)} {kV6 dc6 pm6 cd6 ct6 : Value}
    {f7 : Addr} {oc7 : Value} {od7 an7 : Option Addr} {sl7 : Array (Option Value)} {kV7 dc7 pm7 cd7 ct7 : Value}
    {f8 : Addr} {oc8 : Value} {od8 an8 : Option Addr} {sl8 : Array (Option Value)} {kV8 dc8 pm8 cd8 ct8 : Value}
    {f9 : Addr} {oc9 : Value} {od9 an9 : Option Addr} {sl9 : Array (Option Value)} {kV9 dc9 pm9 cd9 ct9 : Value}
    {f10 : Addr} {oc10 : Value} {od10 an10 : Option Addr} {sl10 : Array (Option Value)} {kV10 dc10 pm10 cd10 ct10 : Value}
    {f11 : Addr} {oc11 : Value} {od11 an11 : Option Addr} {sl11 : Array (Option Value)} {kV11 dc11 pm11 cd11 ct11 : Value}
    {f12 : Addr} {oc12 : Value} {od12 an12 : Option Addr} {sl12 : Array (Option Value)} {kV12 dc12 pm12 cd12 ct12 : Value}
    {f13 : Addr} {oc13 : Value} {od13 an13 : Option Addr} {sl13 : Array (Option Value)} {kV13 dc13 pm13 cd13 ct13 : Value}
    {f14 : Addr} {oc14 : Value} {od14 an14 : Option Addr} {sl14 : Array (Option Value)} {kV14 dc14 pm14 cd14 ct14 : Value}
    {f15 : Addr} {oc15 : Value} {od15 an15 : Option Addr} {sl15 : Array (Option Value)} {kV15 dc15 pm15 cd15 ct15 : Value}
    {f16 : Addr} {oc16 : Value} {od16 an16 : Option Addr} {sl16 : Array (Option Value)} {kV16 dc16 pm16 cd16 ct16 : Value}
    {f17 : Addr} {oc17 : Value} {od17 an17 : Option Addr} {sl17 : Array (Option Value)} {kV17 dc17 pm17 cd17 ct17 : Value}
    {f18 : Addr} {oc18 : Value} {od18 an18 : Option Addr} {sl18 : Array (Option Value)} {kV18 dc18 pm18 cd18 ct18 : Value}
    {f19 : Addr} {oc19 : Value} {od19 an19 : Option Addr} {sl19 : Array (Option Value)} {kV19 dc19 pm19 cd19 ct19 : Value}
    {f20 : Addr} {oc20 : Value} {od20 an20 : Option Addr} {sl20 : Array (Option Value)} {kV20 dc20 pm20 cd20 ct20 : Value}
    {f21 : Addr} {oc21 : Value} {od21 an21 : Option Addr} {sl21 : Array (Option Value)} {kV21 dc21 pm21 cd21 ct21 : Value}
    {f22 : Addr} {oc22 : Value} {od22 an22 : Option Addr} {sl22 : Array (Option Value)} {kV22 dc22 pm22 cd22 ct22 : Value}
    {f23 : Addr} {oc23 : Value} {od23 an23 : Option Addr} {sl23 : Array (Option Value)} {kV23 dc23 pm23 cd23 ct23 : Value}
    (a0 : PySem.W.nsIn K mainGlobals "square_sign" = some (some (.ref f0))) (l0 : K.lookup f0 = some ⟨oc0, od0, .func (PySem.W.fnOf "square_sign" "square_sign" (defArgs s_square_sign) (defBody s_square_sign) (defScope s_square_sign) .none kV0 dc0 pm0 an0 cd0 ct0), sl0⟩) (c0 : PySem.W.codeIn K cd0 "square_sign" = true) (k0 : PySem.W.keepIn K (.ref f0) = true)
    (a1 : PySem.W.nsIn K mainGlobals "formula_rests" = some (some (.ref f1))) (l1 : K.lookup f1 = some ⟨oc1, od1, .func (PySem.W.fnOf "formula_rests" "formula_rests" (defArgs s_formula_rests) (defBody s_formula_rests) (defScope s_formula_rests) .none kV1 dc1 pm1 an1 cd1 ct1), sl1⟩) (c1 : PySem.W.codeIn K cd1 "formula_rests" = true) (k1 : PySem.W.keepIn K (.ref f1) = true)
    (a2 : PySem.W.nsIn K mainGlobals "circle_count" = some (some (.ref f2))) (l2 : K.lookup f2 = some ⟨oc2, od2, .func (PySem.W.fnOf "circle_count" "circle_count" (defArgs s_circle_count) (defBody s_circle_count) (defScope s_circle_count) .none kV2 dc2 pm2 an2 cd2 ct2), sl2⟩) (c2 : PySem.W.codeIn K cd2 "circle_count" = true) (k2 : PySem.W.keepIn K (.ref f2) = true)
    (a3 : PySem.W.nsIn K mainGlobals "formula_roots" = some (some (.ref f3))) (l3 : K.lookup f3 = some ⟨oc3, od3, .func (PySem.W.fnOf "formula_roots" "formula_roots" (defArgs s_formula_roots) (defBody s_formula_roots) (defScope s_formula_roots) .none kV3 dc3 pm3 an3 cd3 ct3), sl3⟩) (c3 : PySem.W.codeIn K cd3 "formula_roots" = true) (k3 : PySem.W.keepIn K (.ref f3) = true)
    (a4 : PySem.W.nsIn K mainGlobals "_law_own_bag" = some (some (.ref f4))) (l4 : K.lookup f4 = some ⟨oc4, od4, .func (PySem.W.fnOf "_law_own_bag" "_law_own_bag" (defArgs s__law_own_bag) (defBody s__law_own_bag) (defScope s__law_own_bag) .none kV4 dc4 pm4 an4 cd4 ct4), sl4⟩) (c4 : PySem.W.codeIn K cd4 "_law_own_bag" = true) (k4 : PySem.W.keepIn K (.ref f4) = true)
    (a5 : PySem.W.nsIn K mainGlobals "_law_draw" = some (some (.ref f5))) (l5 : K.lookup f5 = some ⟨oc5, od5, .func (PySem.W.fnOf "_law_draw" "_law_draw" (defArgs s__law_draw) (defBody s__law_draw) (defScope s__law_draw) .none kV5 dc5 pm5 an5 cd5 ct5), sl5⟩) (c5 : PySem.W.codeIn K cd5 "_law_draw" = true) (k5 : PySem.W.keepIn K (.ref f5) = true)
    (a6 : PySem.W.nsIn K mainGlobals "_law_pick" = some (some (.ref f6))) (l6 : K.lookup f6 = some ⟨oc6, od6, .func (PySem.W.fnOf "_law_pick" "_law_pick" (defArgs s__law_pick) (defBody s__law_pick) (defScope s__law_pick) .none kV6 dc6 pm6 an6 cd6 ct6), sl6⟩) (c6 : PySem.W.codeIn K cd6 "_law_pick" = true) (k6 : PySem.W.keepIn K (.ref f6) = true)
    (a7 : PySem.W.nsIn K mainGlobals "_law_primes" = some (some (.ref f7))) (l7 : K.lookup f7 = some ⟨oc7, od7, .func (PySem.W.fnOf "_law_primes" "_law_primes" (defArgs s__law_primes) (defBody s__law_primes) (defScope s__law_primes) .none kV7 dc7 pm7 an7 cd7 ct7), sl7⟩) (c7 : PySem.W.codeIn K cd7 "_law_primes" = true) (k7 : PySem.W.keepIn K (.ref f7) = true)
    (a8 : PySem.W.nsIn K mainGlobals "_law_some_primes" = some (some (.ref f8))) (l8 : K.lookup f8 = some ⟨oc8, od8, .func (PySem.W.fnOf "_law_some_primes" "_law_some_primes" (defArgs s__law_some_primes) (defBody s__law_some_primes) (defScope s__law_some_primes) .none kV8 dc8 pm8 an8 cd8 ct8), sl8⟩) (c8 : PySem.W.codeIn K cd8 "_law_some_primes" = true) (k8 : PySem.W.keepIn K (.ref f8) = true)
    (a9 : PySem.W.nsIn K mainGlobals "_law_far" = some (some (.ref f9))) (l9 : K.lookup f9 = some ⟨oc9, od9, .func (PySem.W.fnOf "_law_far" "_law_far" (defArgs s__law_far) (defBody s__law_far) (defScope s__law_far) .none kV9 dc9 pm9 an9 cd9 ct9), sl9⟩) (c9 : PySem.W.codeIn K cd9 "_law_far" = true) (k9 : PySem.W.keepIn K (.ref f9) = true)
    (a10 : PySem.W.nsIn K mainGlobals "_law_great" = some (some (.ref f10))) (l10 : K.lookup f10 = some ⟨oc10, od10, .func (PySem.W.fnOf "_law_great" "_law_great" (defArgs s__law_great) (defBody s__law_great) (defScope s__law_great) .none kV10 dc10 pm10 an10 cd10 ct10), sl10⟩) (c10 : PySem.W.codeIn K cd10 "_law_great" = true) (k10 : PySem.W.keepIn K (.ref f10) = true)
    (a11 : PySem.W.nsIn K mainGlobals "_law_with_rest" = some (some (.ref f11))) (l11 : K.lookup f11 = some ⟨oc11, od11, .func (PySem.W.fnOf "_law_with_rest" "_law_with_rest" (defArgs s__law_with_rest) (defBody s__law_with_rest) (defScope s__law_with_rest) .none kV11 dc11 pm11 an11 cd11 ct11), sl11⟩) (c11 : PySem.W.codeIn K cd11 "_law_with_rest" = true) (k11 : PySem.W.keepIn K (.ref f11) = true)
    (a12 : PySem.W.nsIn K mainGlobals "_law_same" = some (some (.ref f12))) (l12 : K.lookup f12 = some ⟨oc12, od12, .func (PySem.W.fnOf "_law_same" "_law_same" (defArgs s__law_same) (defBody s__law_same) (defScope s__law_same) .none kV12 dc12 pm12 an12 cd12 ct12), sl12⟩) (c12 : PySem.W.codeIn K cd12 "_law_same" = true) (k12 : PySem.W.keepIn K (.ref f12) = true)
    (a13 : PySem.W.nsIn K mainGlobals "_law_roots" = some (some (.ref f13))) (l13 : K.lookup f13 = some ⟨oc13, od13, .func (PySem.W.fnOf "_law_roots" "_law_roots" (defArgs s__law_roots) (defBody s__law_roots) (defScope s__law_roots) .none kV13 dc13 pm13 an13 cd13 ct13), sl13⟩) (c13 : PySem.W.codeIn K cd13 "_law_roots" = true) (k13 : PySem.W.keepIn K (.ref f13) = true)
    (a14 : PySem.W.nsIn K mainGlobals "_law_signs" = some (some (.ref f14))) (l14 : K.lookup f14 = some ⟨oc14, od14, .func (PySem.W.fnOf "_law_signs" "_law_signs" (defArgs s__law_signs) (defBody s__law_signs) (defScope s__law_signs) .none kV14 dc14 pm14 an14 cd14 ct14), sl14⟩) (c14 : PySem.W.codeIn K cd14 "_law_signs" = true) (k14 : PySem.W.keepIn K (.ref f14) = true)
    (a15 : PySem.W.nsIn K mainGlobals "_law_rests" = some (some (.ref f15))) (l15 : K.lookup f15 = some ⟨oc15, od15, .func (PySem.W.fnOf "_law_rests" "_law_rests" (defArgs s__law_rests) (defBody s__law_rests) (defScope s__law_rests) .none kV15 dc15 pm15 an15 cd15 ct15), sl15⟩) (c15 : PySem.W.codeIn K cd15 "_law_rests" = true) (k15 : PySem.W.keepIn K (.ref f15) = true)
    (a16 : PySem.W.nsIn K mainGlobals "_law_formula" = some (some (.ref f16))) (l16 : K.lookup f16 = some ⟨oc16, od16, .func (PySem.W.fnOf "_law_formula" "_law_formula" (defArgs s__law_formula) (defBody s__law_formula) (defScope s__law_formula) .none kV16 dc16 pm16 an16 cd16 ct16), sl16⟩) (c16 : PySem.W.codeIn K cd16 "_law_formula" = true) (k16 : PySem.W.keepIn K (.ref f16) = true)
    (a17 : PySem.W.nsIn K mainGlobals "_law_ways" = some (some (.ref f17))) (l17 : K.lookup f17 = some ⟨oc17, od17, .func (PySem.W.fnOf "_law_ways" "_law_ways" (defArgs s__law_ways) (defBody s__law_ways) (defScope s__law_ways) .none kV17 dc17 pm17 an17 cd17 ct17), sl17⟩) (c17 : PySem.W.codeIn K cd17 "_law_ways" = true) (k17 : PySem.W.keepIn K (.ref f17) = true)
    (a18 : PySem.W.nsIn K mainGlobals "_law_own_count" = some (some (.ref f18))) (l18 : K.lookup f18 = some ⟨oc18, od18, .func (PySem.W.fnOf "_law_own_count" "_law_own_count" (defArgs s__law_own_count) (defBody s__law_own_count) (defScope s__law_own_count) .none kV18 dc18 pm18 an18 cd18 ct18), sl18⟩) (c18 : PySem.W.codeIn K cd18 "_law_own_count" = true) (k18 : PySem.W.keepIn K (.ref f18) = true)
    (a19 : PySem.W.nsIn K mainGlobals "_law_is_count_right" = some (some (.ref f19))) (l19 : K.lookup f19 = some ⟨oc19, od19, .func (PySem.W.fnOf "_law_is_count_right" "_law_is_count_right" (defArgs s__law_is_count_right) (defBody s__law_is_count_right) (defScope s__law_is_count_right) .none kV19 dc19 pm19 an19 cd19 ct19), sl19⟩) (c19 : PySem.W.codeIn K cd19 "_law_is_count_right" = true) (k19 : PySem.W.keepIn K (.ref f19) = true)
    (a20 : PySem.W.nsIn K mainGlobals "_law_are_all_right" = some (some (.ref f20))) (l20 : K.lookup f20 = some ⟨oc20, od20, .func (PySem.W.fnOf "_law_are_all_right" "_law_are_all_right" (defArgs s__law_are_all_right) (defBody s__law_are_all_right) (defScope s__law_are_all_right) .none kV20 dc20 pm20 an20 cd20 ct20), sl20⟩) (c20 : PySem.W.codeIn K cd20 "_law_are_all_right" = true) (k20 : PySem.W.keepIn K (.ref f20) = true)
    (a21 : PySem.W.nsIn K mainGlobals "_law_own_found" = some (some (.ref f21))) (l21 : K.lookup f21 = some ⟨oc21, od21, .func (PySem.W.fnOf "_law_own_found" "_law_own_found" (defArgs s__law_own_found) (defBody s__law_own_found) (defScope s__law_own_found) .none kV21 dc21 pm21 an21 cd21 ct21), sl21⟩) (c21 : PySem.W.codeIn K cd21 "_law_own_found" = true) (k21 : PySem.W.keepIn K (.ref f21) = true)
    (a22 : PySem.W.nsIn K mainGlobals "_law_are_found_right" = some (some (.ref f22))) (l22 : K.lookup f22 = some ⟨oc22, od22, .func (PySem.W.fnOf "_law_are_found_right" "_law_are_found_right" (defArgs s__law_are_found_right) (defBody s__law_are_found_right) (defScope s__law_are_found_right) .none kV22 dc22 pm22 an22 cd22 ct22), sl22⟩) (c22 : PySem.W.codeIn K cd22 "_law_are_found_right" = true) (k22 : PySem.W.keepIn K (.ref f22) = true)
    (a23 : PySem.W.nsIn K mainGlobals "law" = some (some (.ref f23))) (l23 : K.lookup f23 = some ⟨oc23, od23, .func (PySem.W.fnOf "law" "law" (defArgs s_law) (defBody s_law) (defScope s_law) .none kV23 dc23 pm23 an23 cd23 ct23), sl23⟩) (c23 : PySem.W.codeIn K cd23 "law" = true) (k23 : PySem.W.keepIn K (.ref f23) = true)
    (z0 : PySem.W.nsIn K mainGlobals "abs" = some none)
    (z1 : PySem.W.nsIn K mainGlobals "any" = some none)
    (z2 : PySem.W.nsIn K mainGlobals "enumerate" = some none)
    (z3 : PySem.W.nsIn K mainGlobals "int" = some none)
    (z4 : PySem.W.nsIn K mainGlobals "len" = some none)
    (z5 : PySem.W.nsIn K mainGlobals "list" = some none)
    (z6 : PySem.W.nsIn K mainGlobals "range" = some none)
    (z7 : PySem.W.nsIn K mainGlobals "repr" = some none)
    (z8 : PySem.W.nsIn K mainGlobals "reversed" = some none)
    (z9 : PySem.W.nsIn K mainGlobals "sum" = some none) (base : Heap) : Ok P w K mg base CX0 noXR 5 g_law := by
  have y0 := PySem.W.mg_none_of X G z0
  have y1 := PySem.W.mg_none_of X G z1
  have y2 := PySem.W.mg_none_of X G z2
  have y3 := PySem.W.mg_none_of X G z3
  have y4 := PySem.W.mg_none_of X G z4
  have y5 := PySem.W.mg_none_of X G z5
  have y6 := PySem.W.mg_none_of X G z6
  have y7 := PySem.W.mg_none_of X G z7
  have y8 := PySem.W.mg_none_of X G z8
  have y9 := PySem.W.mg_none_of X G z9
  have o0 : Ok P w K mg base CX0 noXR 1 g_square_sign := ok_square_sign (fun_mk (st := s_square_sign) l0 c0 k0) (PySem.W.mg_of X G a0) y1 y6
  have o1 : Ok P w K mg base CX0 noXR 1 g_formula_rests := ok_formula_rests (fun_mk (st := s_formula_rests) l1 c1 k1) (PySem.W.mg_of X G a1) y6
  have o2 : Ok P w K mg base CX0 noXR 1 g_circle_count := ok_circle_count (fun_mk (st := s_circle_count) l2 c2 k2) (PySem.W.mg_of X G a2) y6
  have o3 : Ok P w K mg base CX0 noXR 2 g_formula_roots := ok_formula_roots (fun_mk (st := s_formula_roots) l3 c3 k3) (PySem.W.mg_of X G a3) o1
  have o4 : Ok P w K mg base CX0 noXR 1 g__law_own_bag := ok__law_own_bag (fun_mk (st := s__law_own_bag) l4 c4 k4) (PySem.W.mg_of X G a4) y5 y8 y3 y4 y0
  have o5 : Ok P w K mg base CX0 noXR 1 g__law_draw := ok__law_draw (fun_mk (st := s__law_draw) l5 c5 k5) (PySem.W.mg_of X G a5) y3
  have o6 : Ok P w K mg base CX0 noXR 2 g__law_pick := ok__law_pick (fun_mk (st := s__law_pick) l6 c6 k6) (PySem.W.mg_of X G a6) o5 y4
  have o7 : Ok P w K mg base CX0 noXR 1 g__law_primes := ok__law_primes (fun_mk (st := s__law_primes) l7 c7 k7) (PySem.W.mg_of X G a7) 
  have o8 : Ok P w K mg base CX0 noXR 2 g__law_some_primes := ok__law_some_primes (fun_mk (st := s__law_some_primes) l8 c8 k8) (PySem.W.mg_of X G a8) o5 y6 y3 y4
  have o9 : Ok P w K mg base CX0 noXR 2 g__law_far := ok__law_far (fun_mk (st := s__law_far) l9 c9 k9) (PySem.W.mg_of X G a9) o5
  have o10 : Ok P w K mg base CX0 noXR 3 g__law_great := ok__law_great (fun_mk (st := s__law_great) l10 c10 k10) (PySem.W.mg_of X G a10) o5 o9
  have o11 : Ok P w K mg base CX0 noXR 3 g__law_with_rest := ok__law_with_rest (fun_mk (st := s__law_with_rest) l11 c11 k11) (PySem.W.mg_of X G a11) o5 o9 y3
  have o12 : Ok P w K mg base CX0 noXR 1 g__law_same := ok__law_same (fun_mk (st := s__law_same) l12 c12 k12) (PySem.W.mg_of X G a12) y7
  have o13 : Ok P w K mg base CX0 noXR 1 g__law_roots := ok__law_roots (fun_mk (st := s__law_roots) l13 c13 k13) (PySem.W.mg_of X G a13) y8 y5 y6 y3
  have o14 : Ok P w K mg base CX0 noXR 2 g__law_signs := ok__law_signs (fun_mk (st := s__law_signs) l14 c14 k14) (PySem.W.mg_of X G a14) o13
  have o15 : Ok P w K mg base CX0 noXR 3 g__law_rests := ok__law_rests (fun_mk (st := s__law_rests) l15 c15 k15) (PySem.W.mg_of X G a15) o5 o6 o13 y2
  have o16 : Ok P w K mg base CX0 noXR 4 g__law_formula := ok__law_formula (fun_mk (st := s__law_formula) l16 c16 k16) (PySem.W.mg_of X G a16) o15 o11 o10 y3
  have o17 : Ok P w K mg base CX0 noXR 1 g__law_ways := ok__law_ways (fun_mk (st := s__law_ways) l17 c17 k17) (PySem.W.mg_of X G a17) y6 y3
  have o18 : Ok P w K mg base CX0 noXR 1 g__law_own_count := ok__law_own_count (fun_mk (st := s__law_own_count) l18 c18 k18) (PySem.W.mg_of X G a18) y9 y6 y3
  have o19 : Ok P w K mg base CX0 noXR 2 g__law_is_count_right := ok__law_is_count_right (fun_mk (st := s__law_is_count_right) l19 c19 k19) (PySem.W.mg_of X G a19) o12 o0 o2 o18 y3
  have o20 : Ok P w K mg base CX0 noXR 4 g__law_are_all_right := ok__law_are_all_right (fun_mk (st := s__law_are_all_right) l20 c20 k20) (PySem.W.mg_of X G a20) o2 o19 o11 o17 y6
  have o21 : Ok P w K mg base CX0 noXR 1 g__law_own_found := ok__law_own_found (fun_mk (st := s__law_own_found) l21 c21 k21) (PySem.W.mg_of X G a21) y4 y6 y3
  have o22 : Ok P w K mg base CX0 noXR 3 g__law_are_found_right := ok__law_are_found_right (fun_mk (st := s__law_are_found_right) l22 c22 k22) (PySem.W.mg_of X G a22) o12 o0 o14 o3 o21 y3
  have o23 : Ok P w K mg base CX0 noXR 5 g_law := ok_law (fun_mk (st := s_law) l23 c23 k23) (PySem.W.mg_of X G a23) o19 o22 o20 o11 o6 o16 o7 o5 o17 o10 o8 o4 y6 y2 y3
  exact o23
end R83
namespace R83
open PySem PD
def bagS (cells : List Int) (dig mix : Int) : Sto := [[.ref 1, .int dig, .int mix], cells.map D.int]
def Bag (st : Sto) : Prop := ∃ (cells : List Int) (dig mix : Int), st = bagS cells dig mix ∧ cells.length ≤ 63 ∧ 0 ≤ dig ∧ 0 ≤ mix ∧ mix < 2147483647
def tW : M Bool := (mAnd (mBl (mOp2 dEq (fz (mOp2 dIx (bVar 0) (ret (D.int 1)))) (ret (D.int 0)))) (mBl (mOp2 dNe (fz (mOp2 dIx (bVar 0) (ret (D.int 0)))) (fz (pLst aNil)))))
def bW : SM := (sSeq (sSet 2 (up (ePopR (fz (mOp2 dIx (bVar 0) (ret (D.int 0))))))) (sSeq (sStI 0 (mIf (mBl (mOp2 dGt (bVar 2) (fz (mOp2 dPow (ret (D.int 10)) (ret (D.int 9)))))) (eVar 2) (ret (D.int 0))) (ret (D.int 1))) sNil))
theorem lim0 : (0 : Nat) ≤ lim := Nat.zero_le _
theorem tW_ok {b : D} {x : Sl} {cells : List Int} {dig mix : Int} : tW [.val (.ref 0), .val b, x, .un] (bagS cells dig mix) = .ok (decide (dig = 0) && !cells.isEmpty) [.val (.ref 0), .val b, x, .un] (bagS cells dig mix) := by
  have ix0 : dIx (.lst [.ref 1, .int dig, .int mix]) (.int 0) = some (.fro (.ref 1)) := rfl
  have ix1 : dIx (.lst [.ref 1, .int dig, .int mix]) (.int 1) = some (.fro (.int dig)) := rfl
  have r0 : dr (bagS cells dig mix) (.ref 0) = .lst [.ref 1, .int dig, .int mix] := rfl
  have r1 : dr (bagS cells dig mix) (.ref 1) = .lst (cells.map D.int) := rfl
  unfold tW
  simp only [v_ok, v_bnd, v_ret, v_eVar, v_bVar, v_fz, v_frz, v_up, v_fro, v_op2, v_op1, v_opN, v_pv2, v_pv1, v_pvN, v_pvf, v_pvn, v_pvt, v_pI, v_pB, v_d1, v_d2, v_od, v_od2, r_int, r_bl, r_non, r_str, r_lst, r_tup, r_fzl, r_rep, r_dic, r_nil, r_cons, v_seq, v_seqn, v_seqr, v_nil, v_sif, v_mif, v_ite, v_sret, v_sretN, v_set, v_setM, v_sl1, v_sl2, v_bl, v_blP, v_tru, v_truM, v_opt, v_chain, v_chP, v_and, v_or, v_not, v_eNot, v_eAnd, v_andD, v_eOr, v_orD, v_aNil, v_aCons, v_lNil, v_lCons, v_par, v_parM, v_setE, v_setN, v_oN, v_oP, v_part, v_slc, v_call, v_callK, v_for, v_seqI, v_it1, v_it2, v_it3, v_rng1, v_rng1M, v_rng2, v_rng2M, v_enu, v_enuM, v_rv, v_rvM, v_zp, v_zp1, v_lc, v_lr1, v_sti, v_app, v_popR, d_sub, d_add, d_neg, d_eq, d_ne, d_lt, d_le, d_gt, d_ge, d_int, d_len, d_lenT, d_isN, d_isNN, t_bl, List.getElem?_cons_zero, List.getElem?_cons_succ, List.set_cons_zero, List.set_cons_succ, List.length_cons, List.length_nil, if_true, if_false, Bool.false_eq_true, v_lst, lim0, r0, r1, ix0, ix1, ne_nil]
  cases h : decide (dig = 0) <;> rfl
theorem bW_ok {b : D} {x : Sl} {c : Int} {cells : List Int} {dig mix : Int} : bW [.val (.ref 0), .val b, x, .un] (bagS (cells ++ [c]) dig mix) = .ok .nx [.val (.ref 0), .val b, .val (.int c), .un] (bagS cells (if c > 1000000000 then c else 0) mix) := by
  have ix0 : dIx (.lst [.ref 1, .int dig, .int mix]) (.int 0) = some (.fro (.ref 1)) := rfl
  have r0 : dr (bagS (cells ++ [c]) dig mix) (.ref 0) = .lst [.ref 1, .int dig, .int mix] := rfl
  have hl : ((cells ++ [c]).map D.int)[((cells ++ [c]).map D.int).length - 1]? = some (.int c) := by simp
  have hd : ((cells ++ [c]).map D.int).dropLast = cells.map D.int := by simp
  have pp : ∀ e, popR (.ref 1) e (bagS (cells ++ [c]) dig mix) = .ok (.int c) e (bagS cells dig mix) := fun e => by
    show (match ((cells ++ [c]).map D.int)[((cells ++ [c]).map D.int).length - 1]? with | some d => Res.ok d e (List.set (bagS (cells ++ [c]) dig mix) 1 ((cells ++ [c]).map D.int).dropLast) | none => .bad) = _
    rw [hl, hd]
    rfl
  have pw : dPow (.int 10) (.int 9) = pI 1000000000 := rfl
  unfold bW
  simp only [v_ok, v_bnd, v_ret, v_eVar, v_bVar, v_fz, v_frz, v_up, v_fro, v_op2, v_op1, v_opN, v_pv2, v_pv1, v_pvN, v_pvf, v_pvn, v_pvt, v_pI, v_pB, v_d1, v_d2, v_od, v_od2, r_int, r_bl, r_non, r_str, r_lst, r_tup, r_fzl, r_rep, r_dic, r_nil, r_cons, v_seq, v_seqn, v_seqr, v_nil, v_sif, v_mif, v_ite, v_sret, v_sretN, v_set, v_setM, v_sl1, v_sl2, v_bl, v_blP, v_tru, v_truM, v_opt, v_chain, v_chP, v_and, v_or, v_not, v_eNot, v_eAnd, v_andD, v_eOr, v_orD, v_aNil, v_aCons, v_lNil, v_lCons, v_par, v_parM, v_setE, v_setN, v_oN, v_oP, v_part, v_slc, v_call, v_callK, v_for, v_seqI, v_it1, v_it2, v_it3, v_rng1, v_rng1M, v_rng2, v_rng2M, v_enu, v_enuM, v_rv, v_rvM, v_zp, v_zp1, v_lc, v_lr1, v_sti, v_app, v_popR, d_sub, d_add, d_neg, d_eq, d_ne, d_lt, d_le, d_gt, d_ge, d_int, d_len, d_lenT, d_isN, d_isNN, t_bl, List.getElem?_cons_zero, List.getElem?_cons_succ, List.set_cons_zero, List.set_cons_succ, List.length_cons, List.length_nil, if_true, if_false, Bool.false_eq_true, r0, ix0, pp, pw]
  by_cases h : c > 1000000000
  · have h' : (1000000000 : Int) < c := h
    simp only [if_pos h, decide_eq_true h', v_ok, v_bnd, v_ret, v_eVar, v_bVar, v_fz, v_frz, v_up, v_fro, v_op2, v_op1, v_opN, v_pv2, v_pv1, v_pvN, v_pvf, v_pvn, v_pvt, v_pI, v_pB, v_d1, v_d2, v_od, v_od2, r_int, r_bl, r_non, r_str, r_lst, r_tup, r_fzl, r_rep, r_dic, r_nil, r_cons, v_seq, v_seqn, v_seqr, v_nil, v_sif, v_mif, v_ite, v_sret, v_sretN, v_set, v_setM, v_sl1, v_sl2, v_bl, v_blP, v_tru, v_truM, v_opt, v_chain, v_chP, v_and, v_or, v_not, v_eNot, v_eAnd, v_andD, v_eOr, v_orD, v_aNil, v_aCons, v_lNil, v_lCons, v_par, v_parM, v_setE, v_setN, v_oN, v_oP, v_part, v_slc, v_call, v_callK, v_for, v_seqI, v_it1, v_it2, v_it3, v_rng1, v_rng1M, v_rng2, v_rng2M, v_enu, v_enuM, v_rv, v_rvM, v_zp, v_zp1, v_lc, v_lr1, v_sti, v_app, v_popR, d_sub, d_add, d_neg, d_eq, d_ne, d_lt, d_le, d_gt, d_ge, d_int, d_len, d_lenT, d_isN, d_isNN, t_bl, List.getElem?_cons_zero, List.getElem?_cons_succ, List.set_cons_zero, List.set_cons_succ, List.length_cons, List.length_nil, if_true, if_false, Bool.false_eq_true]
    rfl
  · have h' : ¬ (1000000000 : Int) < c := h
    simp only [if_neg h, decide_eq_false h', v_ok, v_bnd, v_ret, v_eVar, v_bVar, v_fz, v_frz, v_up, v_fro, v_op2, v_op1, v_opN, v_pv2, v_pv1, v_pvN, v_pvf, v_pvn, v_pvt, v_pI, v_pB, v_d1, v_d2, v_od, v_od2, r_int, r_bl, r_non, r_str, r_lst, r_tup, r_fzl, r_rep, r_dic, r_nil, r_cons, v_seq, v_seqn, v_seqr, v_nil, v_sif, v_mif, v_ite, v_sret, v_sretN, v_set, v_setM, v_sl1, v_sl2, v_bl, v_blP, v_tru, v_truM, v_opt, v_chain, v_chP, v_and, v_or, v_not, v_eNot, v_eAnd, v_andD, v_eOr, v_orD, v_aNil, v_aCons, v_lNil, v_lCons, v_par, v_parM, v_setE, v_setN, v_oN, v_oP, v_part, v_slc, v_call, v_callK, v_for, v_seqI, v_it1, v_it2, v_it3, v_rng1, v_rng1M, v_rng2, v_rng2M, v_enu, v_enuM, v_rv, v_rvM, v_zp, v_zp1, v_lc, v_lr1, v_sti, v_app, v_popR, d_sub, d_add, d_neg, d_eq, d_ne, d_lt, d_le, d_gt, d_ge, d_int, d_len, d_lenT, d_isN, d_isNN, t_bl, List.getElem?_cons_zero, List.getElem?_cons_succ, List.set_cons_zero, List.set_cons_succ, List.length_cons, List.length_nil, if_true, if_false, Bool.false_eq_true]
    rfl
theorem whl_ok (b : D) : ∀ (n : Nat) (cells : List Int) (dig mix : Int) (x : Sl), cells.length < n → cells.length ≤ 63 → 0 ≤ dig →
    ∃ (x' : Sl) (cells' : List Int) (dig' : Int), whl tW bW n [.val (.ref 0), .val b, x, .un] (bagS cells dig mix) = .ok .nx [.val (.ref 0), .val b, x', .un] (bagS cells' dig' mix) ∧ cells'.length ≤ 63 ∧ 0 ≤ dig'
  | 0, cells, dig, mix, x, h, _, _ => absurd h (Nat.not_lt_zero _)
  | n + 1, cells, dig, mix, x, h, h2, h3 => by
    rw [v_whl, tW_ok, v_ok]
    by_cases hc : (decide (dig = 0) && !cells.isEmpty) = true
    · rw [if_pos hc]
      rw [Bool.and_eq_true] at hc
      have hn : cells ≠ [] := fun z => by rw [z] at hc; exact absurd hc.2 (by decide)
      obtain ⟨c, cs, hcs⟩ : ∃ c cs, cells = cs ++ [c] := ⟨_, _, (List.dropLast_concat_getLast hn).symm⟩
      subst hcs
      rw [List.length_append] at h h2
      show ∃ (x' : Sl) (cells' : List Int) (dig' : Int), loopF (whl tW bW n) (bW [.val (.ref 0), .val b, x, .un] (bagS (cs ++ [c]) dig mix)) = _ ∧ _
      rw [bW_ok]
      have hd : 0 ≤ (if c > 1000000000 then c else 0) := by split <;> omega
      exact whl_ok b n cs _ mix _ (by simp at h; omega) (by simp at h2; omega) hd
    · rw [if_neg hc]
      exact ⟨x, cells, dig, rfl, h2, h3⟩
theorem draw_ok {st : Sto} {b : Int} (hB : Bag st) (h1 : 0 < b) (h2 : divOk b = true) : ∃ r st', fn__law_draw [.ref 0, .int b] st = .ok (.int r) st' ∧ 0 ≤ r ∧ r < b ∧ Bag st' := by
  obtain ⟨cells, dig, mix, rfl, hc, hd, hm, hm2⟩ := hB
  obtain ⟨x', cells', dig', e, hc', hd'⟩ := whl_ok (.int b) 1000000 cells dig mix .un (by omega) hc hd
  have ix1 : dIx (.lst [.ref 1, .int dig', .int mix]) (.int 1) = some (.fro (.int dig')) := rfl
  have r0 : dr (bagS cells' dig' mix) (.ref 0) = .lst [.ref 1, .int dig', .int mix] := rfl
  have b0 : b ≠ 0 := by omega
  have ew : sWhile tW bW (ini 4 [.ref 0, .int b]) (bagS cells dig mix) = .ok .nx [.val (.ref 0), .val (.int b), x', .un] (bagS cells' dig' mix) := e
  have em : m__law_draw = sSeq (sWhile tW bW) (sSeq (sIf (mBl (mOp2 dGt (fz (mOp2 dIx (bVar 0) (ret (D.int 1)))) (ret (D.int 0)))) (sSeq (sSet 3 (mOp2 dMod (fz (mOpN dInt (aCons (fz (mOp2 dIx (bVar 0) (ret (D.int 1)))) aNil))) (bVar 1))) (sSeq (sStI 0 (fz (mOp2 dDiv (fz (mOp2 dIx (bVar 0) (ret (D.int 1)))) (bVar 1))) (ret (D.int 1))) (sSeq (sRet (eVar 3)) sNil))) sNil) (sSeq (sStI 0 (fz (mOp2 dMod (fz (mOpN dInt (aCons (fz (mOp2 dAdd (fz (mOp2 dMul (fz (mOp2 dIx (bVar 0) (ret (D.int 2)))) (ret (D.int 48271)))) (ret (D.int 11)))) aNil))) (ret (D.int 2147483647)))) (ret (D.int 2))) (sSeq (sRet (fz (mOp2 dMod (fz (mOp2 dDiv (fz (mOp2 dMod (fz (mOpN dInt (aCons (fz (mOp2 dMul (fz (mOp2 dIx (bVar 0) (ret (D.int 2)))) (fz (mOp2 dIx (bVar 0) (ret (D.int 2)))))) aNil))) (ret (D.int 2147483629)))) (ret (D.int 7)))) (bVar 1)))) sNil))) := rfl
  by_cases hp : 0 < dig'
  · refine ⟨dig'.fmod b, bagS cells' (dig' / b) mix, v_fn (e' := [.val (.ref 0), .val (.int b), x', .val (.int (dig'.fmod b))]) ?_, ?_, ?_, cells', _, mix, rfl, hc', Int.ediv_nonneg hd' (by omega), hm, hm2⟩
    · rw [em, v_seq, ew]
      simp only [v_ok, v_bnd, v_ret, v_eVar, v_bVar, v_fz, v_frz, v_up, v_fro, v_op2, v_op1, v_opN, v_pv2, v_pv1, v_pvN, v_pvf, v_pvn, v_pvt, v_pI, v_pB, v_d1, v_d2, v_od, v_od2, r_int, r_bl, r_non, r_str, r_lst, r_tup, r_fzl, r_rep, r_dic, r_nil, r_cons, v_seq, v_seqn, v_seqr, v_nil, v_sif, v_mif, v_ite, v_sret, v_sretN, v_set, v_setM, v_sl1, v_sl2, v_bl, v_blP, v_tru, v_truM, v_opt, v_chain, v_chP, v_and, v_or, v_not, v_eNot, v_eAnd, v_andD, v_eOr, v_orD, v_aNil, v_aCons, v_lNil, v_lCons, v_par, v_parM, v_setE, v_setN, v_oN, v_oP, v_part, v_slc, v_call, v_callK, v_for, v_seqI, v_it1, v_it2, v_it3, v_rng1, v_rng1M, v_rng2, v_rng2M, v_enu, v_enuM, v_rv, v_rvM, v_zp, v_zp1, v_lc, v_lr1, v_sti, v_app, v_popR, d_sub, d_add, d_neg, d_eq, d_ne, d_lt, d_le, d_gt, d_ge, d_int, d_len, d_lenT, d_isN, d_isNN, t_bl, List.getElem?_cons_zero, List.getElem?_cons_succ, List.set_cons_zero, List.set_cons_succ, List.length_cons, List.length_nil, if_true, if_false, Bool.false_eq_true, r0, ix1, hp, decide_true, d_mod b0, d_div h2]
      rfl
    · rw [Int.fmod_eq_emod_of_nonneg _ (by omega)]; exact Int.emod_nonneg _ b0
    · rw [Int.fmod_eq_emod_of_nonneg _ (by omega)]; exact Int.emod_lt_of_pos _ h1
  · have hz : dig' = 0 := by omega
    subst hz
    have ix2 : dIx (.lst [.ref 1, .int 0, .int mix]) (.int 2) = some (.fro (.int mix)) := rfl
    have m1 : mulOk mix 48271 = true := by unfold mulOk smallI; rw [decide_eq_true (show (-18446744073709551616 : Int) < 48271 by decide), decide_eq_true (show (48271 : Int) < 18446744073709551616 by decide)]; simp
    obtain ⟨mm, hmm⟩ : ∃ mm, mm = (mix * 48271 + 11).fmod 2147483647 := ⟨_, rfl⟩
    have n1 : 0 ≤ mm := by rw [hmm, Int.fmod_eq_emod_of_nonneg _ (by decide)]; exact Int.emod_nonneg _ (by decide)
    have n2 : mm < 2147483647 := by rw [hmm, Int.fmod_eq_emod_of_nonneg _ (by decide)]; exact Int.emod_lt_of_pos _ (by decide)
    have m2 : mulOk mm mm = true := by
      unfold mulOk smallI
      rw [decide_eq_true (show (-18446744073709551616 : Int) < mm by omega), decide_eq_true (show mm < 18446744073709551616 by omega)]
      rfl
    have r1 : dr (bagS cells' 0 mm) (.ref 0) = .lst [.ref 1, .int 0, .int mm] := rfl
    have ix3 : dIx (.lst [.ref 1, .int 0, .int mm]) (.int 2) = some (.fro (.int mm)) := rfl
    have stx : ∀ e, stM 0 (.int mm) (.int 2) (.val (.ref 0) :: e) (bagS cells' 0 mix) = .ok .nx (.val (.ref 0) :: e) (bagS cells' 0 mm) := fun e => rfl
    have hv : ∀ e s, hasV 0 (.val (.ref 0) :: e) s = .ok () (.val (.ref 0) :: e) s := fun e s => rfl
    refine ⟨(((mm * mm).fmod 2147483629) / 7).fmod b, bagS cells' 0 mm, v_fn (e' := [.val (.ref 0), .val (.int b), x', .un]) ?_, ?_, ?_, cells', 0, mm, rfl, hc', by decide, n1, n2⟩
    · rw [em, v_seq, ew]
      simp only [v_ok, v_bnd, v_ret, v_eVar, v_bVar, v_fz, v_frz, v_up, v_fro, v_op2, v_op1, v_opN, v_pv2, v_pv1, v_pvN, v_pvf, v_pvn, v_pvt, v_pI, v_pB, v_d1, v_d2, v_od, v_od2, r_int, r_bl, r_non, r_str, r_lst, r_tup, r_fzl, r_rep, r_dic, r_nil, r_cons, v_seq, v_seqn, v_seqr, v_nil, v_sif, v_mif, v_ite, v_sret, v_sretN, v_set, v_setM, v_sl1, v_sl2, v_bl, v_blP, v_tru, v_truM, v_opt, v_chain, v_chP, v_and, v_or, v_not, v_eNot, v_eAnd, v_andD, v_eOr, v_orD, v_aNil, v_aCons, v_lNil, v_lCons, v_par, v_parM, v_setE, v_setN, v_oN, v_oP, v_part, v_slc, v_call, v_callK, v_for, v_seqI, v_it1, v_it2, v_it3, v_rng1, v_rng1M, v_rng2, v_rng2M, v_enu, v_enuM, v_rv, v_rvM, v_zp, v_zp1, v_lc, v_lr1, v_sti, v_app, v_popR, d_sub, d_add, d_neg, d_eq, d_ne, d_lt, d_le, d_gt, d_ge, d_int, d_len, d_lenT, d_isN, d_isNN, t_bl, List.getElem?_cons_zero, List.getElem?_cons_succ, List.set_cons_zero, List.set_cons_succ, List.length_cons, List.length_nil, if_true, if_false, Bool.false_eq_true, r0, ix1, ix2, d_mul m1, d_mod (show (2147483647 : Int) ≠ 0 by decide), d_mod (show (2147483629 : Int) ≠ 0 by decide), d_div (show divOk 7 = true by decide), d_mod b0, ← hmm, stx, hv, r1, ix3, d_mul m2, Int.lt_irrefl, decide_false]
    · rw [Int.fmod_eq_emod_of_nonneg _ (by omega)]; exact Int.emod_nonneg _ b0
    · rw [Int.fmod_eq_emod_of_nonneg _ (by omega)]; exact Int.emod_lt_of_pos _ h1
theorem divOk_of {b : Int} (h1 : 0 < b) (h2 : b < 1000000000000000000000000000000000000000000000000000000000000) : divOk b = true := by
  unfold divOk
  rw [decide_eq_true h1, decide_eq_true h2]
  rfl
theorem mulSL {i j : Int} (h1 : -18446744073709551616 < i) (h2 : i < 18446744073709551616) : mulOk i j = true := by
  unfold mulOk smallI
  rw [decide_eq_true h1, decide_eq_true h2]
  rfl
theorem mulSR {i j : Int} (h1 : -18446744073709551616 < j) (h2 : j < 18446744073709551616) : mulOk i j = true := by
  unfold mulOk smallI
  rw [decide_eq_true h1, decide_eq_true h2]
  simp
theorem atI_at {α : Type} {xs : List α} {r : Int} (h1 : 0 ≤ r) (h2 : r < xs.length) : ∃ d, L2.atI xs r = some d ∧ d ∈ xs := by
  obtain ⟨j, rfl⟩ := Int.eq_ofNat_of_zero_le h1
  have hj : j < xs.length := by omega
  exact ⟨xs[j], L2.atI_nat (List.getElem?_eq_getElem hj), List.getElem_mem hj⟩
theorem pick_ok {st : Sto} {xs : List D} (hB : Bag st) (h1 : 0 < xs.length) (h2 : xs.length < 1000000) : ∃ d st', fn__law_pick [.ref 0, .lst xs] st = .ok d st' ∧ d ∈ xs ∧ Bag st' := by
  obtain ⟨r, st', e, r1, r2, hB'⟩ := draw_ok (b := (xs.length : Int)) hB (by omega) (divOk_of (by omega) (by omega))
  obtain ⟨d, hd, hm⟩ := atI_at r1 r2
  refine ⟨d, st', v_fn (e' := [.val (.ref 0), .val (.lst xs)]) ?_, hm, hB'⟩
  have ei : ini 2 [.ref 0, .lst xs] = [.val (.ref 0), .val (.lst xs)] := rfl
  have ix : dIx (.lst xs) (.int r) = some (.fro d) := by show (L2.atI xs r).map PV.fro = _; rw [hd]; rfl
  rw [ei]
  unfold m__law_pick
  simp only [v_ok, v_bnd, v_ret, v_eVar, v_bVar, v_fz, v_frz, v_up, v_fro, v_op2, v_op1, v_opN, v_pv2, v_pv1, v_pvN, v_pvf, v_pvn, v_pvt, v_pI, v_pB, v_d1, v_d2, v_od, v_od2, r_int, r_bl, r_non, r_str, r_lst, r_tup, r_fzl, r_rep, r_dic, r_nil, r_cons, v_seq, v_seqn, v_seqr, v_nil, v_sif, v_mif, v_ite, v_sret, v_sretN, v_set, v_setM, v_sl1, v_sl2, v_bl, v_blP, v_tru, v_truM, v_opt, v_chain, v_chP, v_and, v_or, v_not, v_eNot, v_eAnd, v_andD, v_eOr, v_orD, v_aNil, v_aCons, v_lNil, v_lCons, v_par, v_parM, v_setE, v_setN, v_oN, v_oP, v_part, v_slc, v_call, v_callK, v_for, v_seqI, v_it1, v_it2, v_it3, v_rng1, v_rng1M, v_rng2, v_rng2M, v_enu, v_enuM, v_rv, v_rvM, v_zp, v_zp1, v_lc, v_lr1, v_sti, v_app, v_popR, d_sub, d_add, d_neg, d_eq, d_ne, d_lt, d_le, d_gt, d_ge, d_int, d_len, d_lenT, d_isN, d_isNN, t_bl, List.getElem?_cons_zero, List.getElem?_cons_succ, List.set_cons_zero, List.set_cons_succ, List.length_cons, List.length_nil, if_true, if_false, Bool.false_eq_true, ca2 e, ix]
def P10 : Int := 10000000000
theorem pow10 : dPow (.int 10) (.int 10) = pI 10000000000 := rfl
theorem pow30 : dPow (.int 10) (.int 30) = pI 1000000000000000000000000000000 := rfl
theorem pow9 : dPow (.int 10) (.int 9) = pI 1000000000 := rfl
theorem pow15 : dPow (.int 10) (.int 15) = pI 1000000000000000 := rfl
theorem far_ok {st : Sto} (hB : Bag st) : ∃ r st', fn__law_far [.ref 0] st = .ok (.int r) st' ∧ 0 ≤ r ∧ r < 1000000000000000000000000000000 ∧ Bag st' := by
  obtain ⟨a, s1, e1, a1, a2, hB⟩ := draw_ok (b := 10000000000) hB (by decide) (by decide)
  obtain ⟨b, s2, e2, b1, b2, hB⟩ := draw_ok (b := 10000000000) hB (by decide) (by decide)
  obtain ⟨c, s3, e3, c1, c2, hB⟩ := draw_ok (b := 10000000000) hB (by decide) (by decide)
  refine ⟨(a * 10000000000 + b) * 10000000000 + c, s3, v_fn (e' := [.val (.ref 0), .val (.int a), .val (.int b)]) ?_, by omega, by omega, hB⟩
  have ei : ini 3 [.ref 0] = [.val (.ref 0), .un, .un] := rfl
  rw [ei]
  unfold m__law_far
  simp only [v_ok, v_bnd, v_ret, v_eVar, v_bVar, v_fz, v_frz, v_up, v_fro, v_op2, v_op1, v_opN, v_pv2, v_pv1, v_pvN, v_pvf, v_pvn, v_pvt, v_pI, v_pB, v_d1, v_d2, v_od, v_od2, r_int, r_bl, r_non, r_str, r_lst, r_tup, r_fzl, r_rep, r_dic, r_nil, r_cons, v_seq, v_seqn, v_seqr, v_nil, v_sif, v_mif, v_ite, v_sret, v_sretN, v_set, v_setM, v_sl1, v_sl2, v_bl, v_blP, v_tru, v_truM, v_opt, v_chain, v_chP, v_and, v_or, v_not, v_eNot, v_eAnd, v_andD, v_eOr, v_orD, v_aNil, v_aCons, v_lNil, v_lCons, v_par, v_parM, v_setE, v_setN, v_oN, v_oP, v_part, v_slc, v_call, v_callK, v_for, v_seqI, v_it1, v_it2, v_it3, v_rng1, v_rng1M, v_rng2, v_rng2M, v_enu, v_enuM, v_rv, v_rvM, v_zp, v_zp1, v_lc, v_lr1, v_sti, v_app, v_popR, d_sub, d_add, d_neg, d_eq, d_ne, d_lt, d_le, d_gt, d_ge, d_int, d_len, d_lenT, d_isN, d_isNN, t_bl, List.getElem?_cons_zero, List.getElem?_cons_succ, List.set_cons_zero, List.set_cons_succ, List.length_cons, List.length_nil, if_true, if_false, Bool.false_eq_true, pow10, ca2 e1, ca2 e2, ca2 e3, d_mul (mulSR (j := 10000000000) (by decide) (by decide))]
theorem great_ok {st : Sto} (hB : Bag st) : ∃ r st', fn__law_great [.ref 0] st = .ok (.int r) st' ∧ -1000000000000000000000000000001 < r ∧ r < 1000000000000000000000000000001 ∧ Bag st' := by
  obtain ⟨w, s1, e1, w1, w2, hB⟩ := draw_ok (b := 4) hB (by decide) (by decide)
  have ei : ini 3 [.ref 0] = [.val (.ref 0), .un, .un] := rfl
  have fin : ∀ (x : Int) (s2 : Sto), Bag s2 → -1000000000000000000000000000001 < x → x < 1000000000000000000000000000001 → 0 ≤ x →
      ∃ r s3, (sSeq (sRet (mIf (mBl (mOp2 dEq (eCall 2 fn__law_draw (aCons (eVar 0) (aCons (ret (D.int 2)) aNil))) (ret (D.int 0)))) (eVar 2) (fz (mOp1 dNeg (bVar 2))))) sNil) [.val (.ref 0), .val (.int w), .val (.int x)] s2 = .ok (.rt (.int r)) [.val (.ref 0), .val (.int w), .val (.int x)] s3 ∧ -1000000000000000000000000000001 < r ∧ r < 1000000000000000000000000000001 ∧ Bag s3 := fun x s2 hB x1 x2 x3 => by
    obtain ⟨b, s3, e3, b1, b2, hB⟩ := draw_ok (b := 2) hB (by decide) (by decide)
    by_cases hb : b = 0
    · refine ⟨x, s3, ?_, x1, x2, hB⟩
      simp only [v_ok, v_bnd, v_ret, v_eVar, v_bVar, v_fz, v_frz, v_up, v_fro, v_op2, v_op1, v_opN, v_pv2, v_pv1, v_pvN, v_pvf, v_pvn, v_pvt, v_pI, v_pB, v_d1, v_d2, v_od, v_od2, r_int, r_bl, r_non, r_str, r_lst, r_tup, r_fzl, r_rep, r_dic, r_nil, r_cons, v_seq, v_seqn, v_seqr, v_nil, v_sif, v_mif, v_ite, v_sret, v_sretN, v_set, v_setM, v_sl1, v_sl2, v_bl, v_blP, v_tru, v_truM, v_opt, v_chain, v_chP, v_and, v_or, v_not, v_eNot, v_eAnd, v_andD, v_eOr, v_orD, v_aNil, v_aCons, v_lNil, v_lCons, v_par, v_parM, v_setE, v_setN, v_oN, v_oP, v_part, v_slc, v_call, v_callK, v_for, v_seqI, v_it1, v_it2, v_it3, v_rng1, v_rng1M, v_rng2, v_rng2M, v_enu, v_enuM, v_rv, v_rvM, v_zp, v_zp1, v_lc, v_lr1, v_sti, v_app, v_popR, d_sub, d_add, d_neg, d_eq, d_ne, d_lt, d_le, d_gt, d_ge, d_int, d_len, d_lenT, d_isN, d_isNN, t_bl, List.getElem?_cons_zero, List.getElem?_cons_succ, List.set_cons_zero, List.set_cons_succ, List.length_cons, List.length_nil, if_true, if_false, Bool.false_eq_true, ca2 e3, hb, decide_true]
    · refine ⟨-x, s3, ?_, by omega, by omega, hB⟩
      simp only [v_ok, v_bnd, v_ret, v_eVar, v_bVar, v_fz, v_frz, v_up, v_fro, v_op2, v_op1, v_opN, v_pv2, v_pv1, v_pvN, v_pvf, v_pvn, v_pvt, v_pI, v_pB, v_d1, v_d2, v_od, v_od2, r_int, r_bl, r_non, r_str, r_lst, r_tup, r_fzl, r_rep, r_dic, r_nil, r_cons, v_seq, v_seqn, v_seqr, v_nil, v_sif, v_mif, v_ite, v_sret, v_sretN, v_set, v_setM, v_sl1, v_sl2, v_bl, v_blP, v_tru, v_truM, v_opt, v_chain, v_chP, v_and, v_or, v_not, v_eNot, v_eAnd, v_andD, v_eOr, v_orD, v_aNil, v_aCons, v_lNil, v_lCons, v_par, v_parM, v_setE, v_setN, v_oN, v_oP, v_part, v_slc, v_call, v_callK, v_for, v_seqI, v_it1, v_it2, v_it3, v_rng1, v_rng1M, v_rng2, v_rng2M, v_enu, v_enuM, v_rv, v_rvM, v_zp, v_zp1, v_lc, v_lr1, v_sti, v_app, v_popR, d_sub, d_add, d_neg, d_eq, d_ne, d_lt, d_le, d_gt, d_ge, d_int, d_len, d_lenT, d_isN, d_isNN, t_bl, List.getElem?_cons_zero, List.getElem?_cons_succ, List.set_cons_zero, List.set_cons_succ, List.length_cons, List.length_nil, if_true, if_false, Bool.false_eq_true, ca2 e3, hb, decide_false]
  have run : ∀ (x : Int) (s2 : Sto), Bag s2 → -1000000000000000000000000000001 < x → x < 1000000000000000000000000000001 → 0 ≤ x →
      (sIf (mBl (mOp2 dEq (bVar 1) (ret (D.int 0)))) (sSeq (sSet 2 (up (eCall 2 fn__law_draw (aCons (eVar 0) (aCons (ret (D.int 200)) aNil))))) sNil) (sSeq (sIf (mBl (mOp2 dEq (bVar 1) (ret (D.int 1)))) (sSeq (sSet 2 (mOp2 dSub (fz (mOp2 dPow (ret (D.int 10)) (ret (D.int 30)))) (eCall 2 fn__law_draw (aCons (eVar 0) (aCons (ret (D.int 130)) aNil))))) sNil) (sSeq (sIf (mBl (mOp2 dEq (bVar 1) (ret (D.int 2)))) (sSeq (sSet 2 (up (eCall 2 fn__law_draw (aCons (eVar 0) (aCons (fz (mOp2 dPow (ret (D.int 10)) (ret (D.int 9)))) aNil))))) sNil) (sSeq (sSet 2 (up (eCall 1 fn__law_far (aCons (eVar 0) aNil)))) sNil)) sNil)) sNil)) [.val (.ref 0), .val (.int w), .un] s1 = .ok .nx [.val (.ref 0), .val (.int w), .val (.int x)] s2 →
      ∃ r st', fn__law_great [.ref 0] st = .ok (.int r) st' ∧ -1000000000000000000000000000001 < r ∧ r < 1000000000000000000000000000001 ∧ Bag st' := fun x s2 hB x1 x2 x3 e => by
    obtain ⟨r, s3, e3, r1, r2, hB⟩ := fin x s2 hB x1 x2 x3
    refine ⟨r, s3, v_fn (e' := [.val (.ref 0), .val (.int w), .val (.int x)]) ?_, r1, r2, hB⟩
    rw [ei]
    unfold m__law_great
    have f1 : sSet 1 (up (eCall 2 fn__law_draw (aCons (eVar 0) (aCons (ret (D.int 4)) aNil)))) [.val (.ref 0), .un, .un] st = .ok .nx [.val (.ref 0), .val (.int w), .un] s1 := by simp only [v_ok, v_bnd, v_ret, v_eVar, v_bVar, v_fz, v_frz, v_up, v_fro, v_op2, v_op1, v_opN, v_pv2, v_pv1, v_pvN, v_pvf, v_pvn, v_pvt, v_pI, v_pB, v_d1, v_d2, v_od, v_od2, r_int, r_bl, r_non, r_str, r_lst, r_tup, r_fzl, r_rep, r_dic, r_nil, r_cons, v_seq, v_seqn, v_seqr, v_nil, v_sif, v_mif, v_ite, v_sret, v_sretN, v_set, v_setM, v_sl1, v_sl2, v_bl, v_blP, v_tru, v_truM, v_opt, v_chain, v_chP, v_and, v_or, v_not, v_eNot, v_eAnd, v_andD, v_eOr, v_orD, v_aNil, v_aCons, v_lNil, v_lCons, v_par, v_parM, v_setE, v_setN, v_oN, v_oP, v_part, v_slc, v_call, v_callK, v_for, v_seqI, v_it1, v_it2, v_it3, v_rng1, v_rng1M, v_rng2, v_rng2M, v_enu, v_enuM, v_rv, v_rvM, v_zp, v_zp1, v_lc, v_lr1, v_sti, v_app, v_popR, d_sub, d_add, d_neg, d_eq, d_ne, d_lt, d_le, d_gt, d_ge, d_int, d_len, d_lenT, d_isN, d_isNN, t_bl, List.getElem?_cons_zero, List.getElem?_cons_succ, List.set_cons_zero, List.set_cons_succ, List.length_cons, List.length_nil, if_true, if_false, Bool.false_eq_true, ca2 e1]
    rw [v_seq, f1, v_ok, v_seqn, v_seq, e, v_ok, v_seqn, e3]
  by_cases h0 : w = 0
  · obtain ⟨x, s2, e2, x1, x2, hB⟩ := draw_ok (b := 200) hB (by decide) (by decide)
    refine run x s2 hB (by omega) (by omega) x1 ?_
    simp only [v_ok, v_bnd, v_ret, v_eVar, v_bVar, v_fz, v_frz, v_up, v_fro, v_op2, v_op1, v_opN, v_pv2, v_pv1, v_pvN, v_pvf, v_pvn, v_pvt, v_pI, v_pB, v_d1, v_d2, v_od, v_od2, r_int, r_bl, r_non, r_str, r_lst, r_tup, r_fzl, r_rep, r_dic, r_nil, r_cons, v_seq, v_seqn, v_seqr, v_nil, v_sif, v_mif, v_ite, v_sret, v_sretN, v_set, v_setM, v_sl1, v_sl2, v_bl, v_blP, v_tru, v_truM, v_opt, v_chain, v_chP, v_and, v_or, v_not, v_eNot, v_eAnd, v_andD, v_eOr, v_orD, v_aNil, v_aCons, v_lNil, v_lCons, v_par, v_parM, v_setE, v_setN, v_oN, v_oP, v_part, v_slc, v_call, v_callK, v_for, v_seqI, v_it1, v_it2, v_it3, v_rng1, v_rng1M, v_rng2, v_rng2M, v_enu, v_enuM, v_rv, v_rvM, v_zp, v_zp1, v_lc, v_lr1, v_sti, v_app, v_popR, d_sub, d_add, d_neg, d_eq, d_ne, d_lt, d_le, d_gt, d_ge, d_int, d_len, d_lenT, d_isN, d_isNN, t_bl, List.getElem?_cons_zero, List.getElem?_cons_succ, List.set_cons_zero, List.set_cons_succ, List.length_cons, List.length_nil, if_true, if_false, Bool.false_eq_true, ca2 e2, h0, decide_true]
  · by_cases h1 : w = 1
    · obtain ⟨x, s2, e2, x1, x2, hB⟩ := draw_ok (b := 130) hB (by decide) (by decide)
      refine run (1000000000000000000000000000000 - x) s2 hB (by omega) (by omega) (by omega) ?_
      subst h1
      simp only [v_ok, v_bnd, v_ret, v_eVar, v_bVar, v_fz, v_frz, v_up, v_fro, v_op2, v_op1, v_opN, v_pv2, v_pv1, v_pvN, v_pvf, v_pvn, v_pvt, v_pI, v_pB, v_d1, v_d2, v_od, v_od2, r_int, r_bl, r_non, r_str, r_lst, r_tup, r_fzl, r_rep, r_dic, r_nil, r_cons, v_seq, v_seqn, v_seqr, v_nil, v_sif, v_mif, v_ite, v_sret, v_sretN, v_set, v_setM, v_sl1, v_sl2, v_bl, v_blP, v_tru, v_truM, v_opt, v_chain, v_chP, v_and, v_or, v_not, v_eNot, v_eAnd, v_andD, v_eOr, v_orD, v_aNil, v_aCons, v_lNil, v_lCons, v_par, v_parM, v_setE, v_setN, v_oN, v_oP, v_part, v_slc, v_call, v_callK, v_for, v_seqI, v_it1, v_it2, v_it3, v_rng1, v_rng1M, v_rng2, v_rng2M, v_enu, v_enuM, v_rv, v_rvM, v_zp, v_zp1, v_lc, v_lr1, v_sti, v_app, v_popR, d_sub, d_add, d_neg, d_eq, d_ne, d_lt, d_le, d_gt, d_ge, d_int, d_len, d_lenT, d_isN, d_isNN, t_bl, List.getElem?_cons_zero, List.getElem?_cons_succ, List.set_cons_zero, List.set_cons_succ, List.length_cons, List.length_nil, if_true, if_false, Bool.false_eq_true, ca2 e2, h0, decide_true, decide_false, pow30]
    · by_cases h2 : w = 2
      · obtain ⟨x, s2, e2, x1, x2, hB⟩ := draw_ok (b := 1000000000) hB (by decide) (by decide)
        refine run x s2 hB (by omega) (by omega) x1 ?_
        subst h2
        simp only [v_ok, v_bnd, v_ret, v_eVar, v_bVar, v_fz, v_frz, v_up, v_fro, v_op2, v_op1, v_opN, v_pv2, v_pv1, v_pvN, v_pvf, v_pvn, v_pvt, v_pI, v_pB, v_d1, v_d2, v_od, v_od2, r_int, r_bl, r_non, r_str, r_lst, r_tup, r_fzl, r_rep, r_dic, r_nil, r_cons, v_seq, v_seqn, v_seqr, v_nil, v_sif, v_mif, v_ite, v_sret, v_sretN, v_set, v_setM, v_sl1, v_sl2, v_bl, v_blP, v_tru, v_truM, v_opt, v_chain, v_chP, v_and, v_or, v_not, v_eNot, v_eAnd, v_andD, v_eOr, v_orD, v_aNil, v_aCons, v_lNil, v_lCons, v_par, v_parM, v_setE, v_setN, v_oN, v_oP, v_part, v_slc, v_call, v_callK, v_for, v_seqI, v_it1, v_it2, v_it3, v_rng1, v_rng1M, v_rng2, v_rng2M, v_enu, v_enuM, v_rv, v_rvM, v_zp, v_zp1, v_lc, v_lr1, v_sti, v_app, v_popR, d_sub, d_add, d_neg, d_eq, d_ne, d_lt, d_le, d_gt, d_ge, d_int, d_len, d_lenT, d_isN, d_isNN, t_bl, List.getElem?_cons_zero, List.getElem?_cons_succ, List.set_cons_zero, List.set_cons_succ, List.length_cons, List.length_nil, if_true, if_false, Bool.false_eq_true, ca2 e2, h0, h1, decide_true, decide_false, pow9]
      · obtain ⟨x, s2, e2, x1, x2, hB⟩ := far_ok hB
        refine run x s2 hB (by omega) (by omega) x1 ?_
        simp only [v_ok, v_bnd, v_ret, v_eVar, v_bVar, v_fz, v_frz, v_up, v_fro, v_op2, v_op1, v_opN, v_pv2, v_pv1, v_pvN, v_pvf, v_pvn, v_pvt, v_pI, v_pB, v_d1, v_d2, v_od, v_od2, r_int, r_bl, r_non, r_str, r_lst, r_tup, r_fzl, r_rep, r_dic, r_nil, r_cons, v_seq, v_seqn, v_seqr, v_nil, v_sif, v_mif, v_ite, v_sret, v_sretN, v_set, v_setM, v_sl1, v_sl2, v_bl, v_blP, v_tru, v_truM, v_opt, v_chain, v_chP, v_and, v_or, v_not, v_eNot, v_eAnd, v_andD, v_eOr, v_orD, v_aNil, v_aCons, v_lNil, v_lCons, v_par, v_parM, v_setE, v_setN, v_oN, v_oP, v_part, v_slc, v_call, v_callK, v_for, v_seqI, v_it1, v_it2, v_it3, v_rng1, v_rng1M, v_rng2, v_rng2M, v_enu, v_enuM, v_rv, v_rvM, v_zp, v_zp1, v_lc, v_lr1, v_sti, v_app, v_popR, d_sub, d_add, d_neg, d_eq, d_ne, d_lt, d_le, d_gt, d_ge, d_int, d_len, d_lenT, d_isN, d_isNN, t_bl, List.getElem?_cons_zero, List.getElem?_cons_succ, List.set_cons_zero, List.set_cons_succ, List.length_cons, List.length_nil, if_true, if_false, Bool.false_eq_true, ca1 e2, h0, h1, h2, decide_false]
theorem same_ok {d : D} (st : Sto) (h : lv 2 d = true) (hr : ∀ n, d ≠ .ref n) : fn__law_same [d, d] st = .ok (.bl true) st := by
  refine v_fn (e' := [.val d, .val d]) ?_
  have ei : ini 2 [d, d] = [.val d, .val d] := rfl
  have rd : dr st d = d := by cases d <;> first | rfl | exact absurd rfl (hr _)
  rw [ei]
  unfold m__law_same
  simp only [v_ok, v_bnd, v_ret, v_eVar, v_bVar, v_fz, v_frz, v_up, v_fro, v_op2, v_op1, v_opN, v_pv2, v_pv1, v_pvN, v_pvf, v_pvn, v_pvt, v_pI, v_pB, v_d1, v_d2, v_od, v_od2, r_int, r_bl, r_non, r_str, r_lst, r_tup, r_fzl, r_rep, r_dic, r_nil, r_cons, v_seq, v_seqn, v_seqr, v_nil, v_sif, v_mif, v_ite, v_sret, v_sretN, v_set, v_setM, v_sl1, v_sl2, v_bl, v_blP, v_tru, v_truM, v_opt, v_chain, v_chP, v_and, v_or, v_not, v_eNot, v_eAnd, v_andD, v_eOr, v_orD, v_aNil, v_aCons, v_lNil, v_lCons, v_par, v_parM, v_setE, v_setN, v_oN, v_oP, v_part, v_slc, v_call, v_callK, v_for, v_seqI, v_it1, v_it2, v_it3, v_rng1, v_rng1M, v_rng2, v_rng2M, v_enu, v_enuM, v_rv, v_rvM, v_zp, v_zp1, v_lc, v_lr1, v_sti, v_app, v_popR, d_sub, d_add, d_neg, d_eq, d_ne, d_lt, d_le, d_gt, d_ge, d_int, d_len, d_lenT, d_isN, d_isNN, t_bl, List.getElem?_cons_zero, List.getElem?_cons_succ, List.set_cons_zero, List.set_cons_succ, List.length_cons, List.length_nil, if_true, if_false, Bool.false_eq_true, rd, repr_ok h, rep_eq h, eq_ok h]
theorem with_ok {st : Sto} {q rest : Int} (hB : Bag st) (h1 : 0 < q) (h2 : q ≤ 100) : ∃ r st', fn__law_with_rest [.ref 0, .int q, .int rest] st = .ok (.int r) st' ∧ (∃ k, r = rest + q * k) ∧ Bag st' := by
  obtain ⟨w, s1, e1, w1, w2, hB⟩ := draw_ok (b := 4) hB (by decide) (by decide)
  have ei : ini 6 [.ref 0, .int q, .int rest] = [.val (.ref 0), .val (.int q), .val (.int rest), .un, .un, .un] := rfl
  have dv : dDiv (.int 1000000000000000000000000000000) (.int q) = pI (1000000000000000000000000000000 / q) := d_div (divOk_of h1 (by omega))
  have mq : ∀ j, dMul (.int q) (.int j) = pI (q * j) := fun j => d_mul (mulSL (by omega) (by omega))
  by_cases h0 : w = 0
  · refine ⟨rest, s1, v_fn (e' := [.val (.ref 0), .val (.int q), .val (.int rest), .val (.int w), .val (.int (1000000000000000000000000000000 / q - 1)), .un]) ?_, ⟨0, by simp⟩, hB⟩
    rw [ei]
    unfold m__law_with_rest
    simp only [v_ok, v_bnd, v_ret, v_eVar, v_bVar, v_fz, v_frz, v_up, v_fro, v_op2, v_op1, v_opN, v_pv2, v_pv1, v_pvN, v_pvf, v_pvn, v_pvt, v_pI, v_pB, v_d1, v_d2, v_od, v_od2, r_int, r_bl, r_non, r_str, r_lst, r_tup, r_fzl, r_rep, r_dic, r_nil, r_cons, v_seq, v_seqn, v_seqr, v_nil, v_sif, v_mif, v_ite, v_sret, v_sretN, v_set, v_setM, v_sl1, v_sl2, v_bl, v_blP, v_tru, v_truM, v_opt, v_chain, v_chP, v_and, v_or, v_not, v_eNot, v_eAnd, v_andD, v_eOr, v_orD, v_aNil, v_aCons, v_lNil, v_lCons, v_par, v_parM, v_setE, v_setN, v_oN, v_oP, v_part, v_slc, v_call, v_callK, v_for, v_seqI, v_it1, v_it2, v_it3, v_rng1, v_rng1M, v_rng2, v_rng2M, v_enu, v_enuM, v_rv, v_rvM, v_zp, v_zp1, v_lc, v_lr1, v_sti, v_app, v_popR, d_sub, d_add, d_neg, d_eq, d_ne, d_lt, d_le, d_gt, d_ge, d_int, d_len, d_lenT, d_isN, d_isNN, t_bl, List.getElem?_cons_zero, List.getElem?_cons_succ, List.set_cons_zero, List.set_cons_succ, List.length_cons, List.length_nil, if_true, if_false, Bool.false_eq_true, ca2 e1, pow30, dv, h0, decide_true]
  by_cases h3 : w = 1
  · obtain ⟨x, s2, e2, x1, x2, hB⟩ := draw_ok (b := 9) hB (by decide) (by decide)
    refine ⟨rest - q * (1 + x), s2, v_fn (e' := [.val (.ref 0), .val (.int q), .val (.int rest), .val (.int w), .val (.int (1000000000000000000000000000000 / q - 1)), .un]) ?_, ⟨-(1 + x), by rw [Int.mul_neg]; omega⟩, hB⟩
    subst h3
    rw [ei]
    unfold m__law_with_rest
    simp only [v_ok, v_bnd, v_ret, v_eVar, v_bVar, v_fz, v_frz, v_up, v_fro, v_op2, v_op1, v_opN, v_pv2, v_pv1, v_pvN, v_pvf, v_pvn, v_pvt, v_pI, v_pB, v_d1, v_d2, v_od, v_od2, r_int, r_bl, r_non, r_str, r_lst, r_tup, r_fzl, r_rep, r_dic, r_nil, r_cons, v_seq, v_seqn, v_seqr, v_nil, v_sif, v_mif, v_ite, v_sret, v_sretN, v_set, v_setM, v_sl1, v_sl2, v_bl, v_blP, v_tru, v_truM, v_opt, v_chain, v_chP, v_and, v_or, v_not, v_eNot, v_eAnd, v_andD, v_eOr, v_orD, v_aNil, v_aCons, v_lNil, v_lCons, v_par, v_parM, v_setE, v_setN, v_oN, v_oP, v_part, v_slc, v_call, v_callK, v_for, v_seqI, v_it1, v_it2, v_it3, v_rng1, v_rng1M, v_rng2, v_rng2M, v_enu, v_enuM, v_rv, v_rvM, v_zp, v_zp1, v_lc, v_lr1, v_sti, v_app, v_popR, d_sub, d_add, d_neg, d_eq, d_ne, d_lt, d_le, d_gt, d_ge, d_int, d_len, d_lenT, d_isN, d_isNN, t_bl, List.getElem?_cons_zero, List.getElem?_cons_succ, List.set_cons_zero, List.set_cons_succ, List.length_cons, List.length_nil, if_true, if_false, Bool.false_eq_true, ca2 e1, ca2 e2, pow30, dv, mq, h0, decide_true, decide_false]
  · obtain ⟨f, s2, e2, f1, f2, hB⟩ := far_ok hB
    obtain ⟨b, s3, e3, b1, b2, hB⟩ := draw_ok (b := 2) hB (by decide) (by decide)
    have tp : (1000000000000000000000000000000 : Int) / q - 1 + 1 ≠ 0 := by
      have : 0 < (1000000000000000000000000000000 : Int) / q := Int.lt_of_lt_of_le (by decide : (0 : Int) < 1) (Int.le_ediv_of_mul_le h1 (by omega))
      omega
    by_cases h4 : w = 3 <;> by_cases h5 : b = 0
    · refine ⟨_, s3, v_fn (e' := [.val (.ref 0), .val (.int q), .val (.int rest), .val (.int w), .val (.int (1000000000000000000000000000000 / q - 1)), .val (.int (1000000000000000000000000000000 / q - 1 - f.fmod (1000000000000000000000000000000 / q - 1 + 1)))]) ?_, ⟨1000000000000000000000000000000 / q - 1 - f.fmod (1000000000000000000000000000000 / q - 1 + 1), rfl⟩, hB⟩
      subst h4
      rw [ei]
      unfold m__law_with_rest
      simp only [v_ok, v_bnd, v_ret, v_eVar, v_bVar, v_fz, v_frz, v_up, v_fro, v_op2, v_op1, v_opN, v_pv2, v_pv1, v_pvN, v_pvf, v_pvn, v_pvt, v_pI, v_pB, v_d1, v_d2, v_od, v_od2, r_int, r_bl, r_non, r_str, r_lst, r_tup, r_fzl, r_rep, r_dic, r_nil, r_cons, v_seq, v_seqn, v_seqr, v_nil, v_sif, v_mif, v_ite, v_sret, v_sretN, v_set, v_setM, v_sl1, v_sl2, v_bl, v_blP, v_tru, v_truM, v_opt, v_chain, v_chP, v_and, v_or, v_not, v_eNot, v_eAnd, v_andD, v_eOr, v_orD, v_aNil, v_aCons, v_lNil, v_lCons, v_par, v_parM, v_setE, v_setN, v_oN, v_oP, v_part, v_slc, v_call, v_callK, v_for, v_seqI, v_it1, v_it2, v_it3, v_rng1, v_rng1M, v_rng2, v_rng2M, v_enu, v_enuM, v_rv, v_rvM, v_zp, v_zp1, v_lc, v_lr1, v_sti, v_app, v_popR, d_sub, d_add, d_neg, d_eq, d_ne, d_lt, d_le, d_gt, d_ge, d_int, d_len, d_lenT, d_isN, d_isNN, t_bl, List.getElem?_cons_zero, List.getElem?_cons_succ, List.set_cons_zero, List.set_cons_succ, List.length_cons, List.length_nil, if_true, if_false, Bool.false_eq_true, ca2 e1, ca1 e2, ca2 e3, pow30, dv, mq, h0, h3, h5, d_mod tp, decide_true, decide_false]
    · refine ⟨rest - q * (1000000000000000000000000000000 / q - 1 - f.fmod (1000000000000000000000000000000 / q - 1 + 1)), s3, v_fn (e' := [.val (.ref 0), .val (.int q), .val (.int rest), .val (.int w), .val (.int (1000000000000000000000000000000 / q - 1)), .val (.int (1000000000000000000000000000000 / q - 1 - f.fmod (1000000000000000000000000000000 / q - 1 + 1)))]) ?_, ⟨-(1000000000000000000000000000000 / q - 1 - f.fmod (1000000000000000000000000000000 / q - 1 + 1)), by rw [Int.mul_neg]; omega⟩, hB⟩
      subst h4
      rw [ei]
      unfold m__law_with_rest
      simp only [v_ok, v_bnd, v_ret, v_eVar, v_bVar, v_fz, v_frz, v_up, v_fro, v_op2, v_op1, v_opN, v_pv2, v_pv1, v_pvN, v_pvf, v_pvn, v_pvt, v_pI, v_pB, v_d1, v_d2, v_od, v_od2, r_int, r_bl, r_non, r_str, r_lst, r_tup, r_fzl, r_rep, r_dic, r_nil, r_cons, v_seq, v_seqn, v_seqr, v_nil, v_sif, v_mif, v_ite, v_sret, v_sretN, v_set, v_setM, v_sl1, v_sl2, v_bl, v_blP, v_tru, v_truM, v_opt, v_chain, v_chP, v_and, v_or, v_not, v_eNot, v_eAnd, v_andD, v_eOr, v_orD, v_aNil, v_aCons, v_lNil, v_lCons, v_par, v_parM, v_setE, v_setN, v_oN, v_oP, v_part, v_slc, v_call, v_callK, v_for, v_seqI, v_it1, v_it2, v_it3, v_rng1, v_rng1M, v_rng2, v_rng2M, v_enu, v_enuM, v_rv, v_rvM, v_zp, v_zp1, v_lc, v_lr1, v_sti, v_app, v_popR, d_sub, d_add, d_neg, d_eq, d_ne, d_lt, d_le, d_gt, d_ge, d_int, d_len, d_lenT, d_isN, d_isNN, t_bl, List.getElem?_cons_zero, List.getElem?_cons_succ, List.set_cons_zero, List.set_cons_succ, List.length_cons, List.length_nil, if_true, if_false, Bool.false_eq_true, ca2 e1, ca1 e2, ca2 e3, pow30, dv, mq, h0, h3, h5, d_mod tp, decide_true, decide_false]
    · refine ⟨_, s3, v_fn (e' := [.val (.ref 0), .val (.int q), .val (.int rest), .val (.int w), .val (.int (1000000000000000000000000000000 / q - 1)), .val (.int (f.fmod (1000000000000000000000000000000 / q - 1 + 1)))]) ?_, ⟨f.fmod (1000000000000000000000000000000 / q - 1 + 1), rfl⟩, hB⟩
      rw [ei]
      unfold m__law_with_rest
      simp only [v_ok, v_bnd, v_ret, v_eVar, v_bVar, v_fz, v_frz, v_up, v_fro, v_op2, v_op1, v_opN, v_pv2, v_pv1, v_pvN, v_pvf, v_pvn, v_pvt, v_pI, v_pB, v_d1, v_d2, v_od, v_od2, r_int, r_bl, r_non, r_str, r_lst, r_tup, r_fzl, r_rep, r_dic, r_nil, r_cons, v_seq, v_seqn, v_seqr, v_nil, v_sif, v_mif, v_ite, v_sret, v_sretN, v_set, v_setM, v_sl1, v_sl2, v_bl, v_blP, v_tru, v_truM, v_opt, v_chain, v_chP, v_and, v_or, v_not, v_eNot, v_eAnd, v_andD, v_eOr, v_orD, v_aNil, v_aCons, v_lNil, v_lCons, v_par, v_parM, v_setE, v_setN, v_oN, v_oP, v_part, v_slc, v_call, v_callK, v_for, v_seqI, v_it1, v_it2, v_it3, v_rng1, v_rng1M, v_rng2, v_rng2M, v_enu, v_enuM, v_rv, v_rvM, v_zp, v_zp1, v_lc, v_lr1, v_sti, v_app, v_popR, d_sub, d_add, d_neg, d_eq, d_ne, d_lt, d_le, d_gt, d_ge, d_int, d_len, d_lenT, d_isN, d_isNN, t_bl, List.getElem?_cons_zero, List.getElem?_cons_succ, List.set_cons_zero, List.set_cons_succ, List.length_cons, List.length_nil, if_true, if_false, Bool.false_eq_true, ca2 e1, ca1 e2, ca2 e3, pow30, dv, mq, h0, h3, h4, h5, d_mod tp, decide_true, decide_false]
    · refine ⟨rest - q * (f.fmod (1000000000000000000000000000000 / q - 1 + 1)), s3, v_fn (e' := [.val (.ref 0), .val (.int q), .val (.int rest), .val (.int w), .val (.int (1000000000000000000000000000000 / q - 1)), .val (.int (f.fmod (1000000000000000000000000000000 / q - 1 + 1)))]) ?_, ⟨-(f.fmod (1000000000000000000000000000000 / q - 1 + 1)), by rw [Int.mul_neg]; omega⟩, hB⟩
      rw [ei]
      unfold m__law_with_rest
      simp only [v_ok, v_bnd, v_ret, v_eVar, v_bVar, v_fz, v_frz, v_up, v_fro, v_op2, v_op1, v_opN, v_pv2, v_pv1, v_pvN, v_pvf, v_pvn, v_pvt, v_pI, v_pB, v_d1, v_d2, v_od, v_od2, r_int, r_bl, r_non, r_str, r_lst, r_tup, r_fzl, r_rep, r_dic, r_nil, r_cons, v_seq, v_seqn, v_seqr, v_nil, v_sif, v_mif, v_ite, v_sret, v_sretN, v_set, v_setM, v_sl1, v_sl2, v_bl, v_blP, v_tru, v_truM, v_opt, v_chain, v_chP, v_and, v_or, v_not, v_eNot, v_eAnd, v_andD, v_eOr, v_orD, v_aNil, v_aCons, v_lNil, v_lCons, v_par, v_parM, v_setE, v_setN, v_oN, v_oP, v_part, v_slc, v_call, v_callK, v_for, v_seqI, v_it1, v_it2, v_it3, v_rng1, v_rng1M, v_rng2, v_rng2M, v_enu, v_enuM, v_rv, v_rvM, v_zp, v_zp1, v_lc, v_lr1, v_sti, v_app, v_popR, d_sub, d_add, d_neg, d_eq, d_ne, d_lt, d_le, d_gt, d_ge, d_int, d_len, d_lenT, d_isN, d_isNN, t_bl, List.getElem?_cons_zero, List.getElem?_cons_succ, List.set_cons_zero, List.set_cons_succ, List.length_cons, List.length_nil, if_true, if_false, Bool.false_eq_true, ca2 e1, ca1 e2, ca2 e3, pow30, dv, mq, h0, h3, h4, h5, d_mod tp, decide_true, decide_false]
def primesD : List D := [.int 3, .int 5, .int 7, .int 11, .int 13, .int 17, .int 19, .int 23, .int 29, .int 31, .int 37, .int 41, .int 43, .int 47, .int 53, .int 59, .int 61]
def primes : List Int := [3, 5, 7, 11, 13, 17, 19, 23, 29, 31, 37, 41, 43, 47, 53, 59, 61]
theorem lim_big : 1000000 ≤ lim := by unfold lim; decide
theorem lim_le {n : Nat} (h : n ≤ 1000000) : n ≤ lim := Nat.le_trans h lim_big
theorem primes_ok (st : Sto) : fn__law_primes [] st = .ok (.lst primesD) st := by
  refine v_fn (e' := []) ?_
  unfold m__law_primes
  simp only [v_ok, v_bnd, v_ret, v_eVar, v_bVar, v_fz, v_frz, v_up, v_fro, v_op2, v_op1, v_opN, v_pv2, v_pv1, v_pvN, v_pvf, v_pvn, v_pvt, v_pI, v_pB, v_d1, v_d2, v_od, v_od2, r_int, r_bl, r_non, r_str, r_lst, r_tup, r_fzl, r_rep, r_dic, r_nil, r_cons, v_seq, v_seqn, v_seqr, v_nil, v_sif, v_mif, v_ite, v_sret, v_sretN, v_set, v_setM, v_sl1, v_sl2, v_bl, v_blP, v_tru, v_truM, v_opt, v_chain, v_chP, v_and, v_or, v_not, v_eNot, v_eAnd, v_andD, v_eOr, v_orD, v_aNil, v_aCons, v_lNil, v_lCons, v_par, v_parM, v_setE, v_setN, v_oN, v_oP, v_part, v_slc, v_call, v_callK, v_for, v_seqI, v_it1, v_it2, v_it3, v_rng1, v_rng1M, v_rng2, v_rng2M, v_enu, v_enuM, v_rv, v_rvM, v_zp, v_zp1, v_lc, v_lr1, v_sti, v_app, v_popR, d_sub, d_add, d_neg, d_eq, d_ne, d_lt, d_le, d_gt, d_ge, d_int, d_len, d_lenT, d_isN, d_isNN, t_bl, List.getElem?_cons_zero, List.getElem?_cons_succ, List.set_cons_zero, List.set_cons_succ, List.length_cons, List.length_nil, if_true, if_false, Bool.false_eq_true, v_lst, if_pos (lim_le (show 17 ≤ 1000000 by decide))]
  first | rfl | (rw [if_pos (lim_le (by decide))]; rfl)
theorem some_ok {st : Sto} {xs : List D} {many : Int} (hB : Bag st) (hx : 2 ≤ xs.length) (hx2 : xs.length ≤ 1000) (h1 : 0 ≤ many) (h2 : many ≤ 100) :
    ∃ ys st', fn__law_some_primes [.ref 0, .lst xs, .int many] st = .ok (.lst ys) st' ∧ ys.length = many.toNat ∧ (∀ y ∈ ys, y ∈ xs) ∧ Bag st' := by
  obtain ⟨a, s1, e1, a1, a2, hB⟩ := draw_ok (b := (xs.length : Int)) hB (by omega) (divOk_of (by omega) (by omega))
  obtain ⟨b, s2, e2, b1, b2, hB⟩ := draw_ok (b := (xs.length : Int) - 1) hB (by omega) (divOk_of (by omega) (by omega))
  have ei : ini 6 [.ref 0, .lst xs, .int many] = [.val (.ref 0), .val (.lst xs), .val (.int many), .un, .un, .un] := rfl
  let e0 : En := [.val (.ref 0), .val (.lst xs), .val (.int many), .val (.int a), .val (.int (1 + b)), .un]
  let g : Int → D := fun k => (L2.atI xs ((a + (1 + b) * k).fmod xs.length)).getD .non
  let f : D → D := fun x => match x with | .int k => g k | d => d
  have hl : (xs.length : Int) ≠ 0 := by omega
  have ok : ∀ k : Int, L2.atI xs ((a + (1 + b) * k).fmod xs.length) = some (g k) ∧ g k ∈ xs := fun k => by
    have r1 : 0 ≤ (a + (1 + b) * k).fmod xs.length := by rw [Int.fmod_eq_emod_of_nonneg _ (by omega)]; exact Int.emod_nonneg _ hl
    have r2 : (a + (1 + b) * k).fmod xs.length < xs.length := by rw [Int.fmod_eq_emod_of_nonneg _ (by omega)]; exact Int.emod_lt_of_pos _ (by omega)
    obtain ⟨d, hd, hm⟩ := atI_at r1 r2
    have e : g k = d := by show (L2.atI xs _).getD .non = d; rw [hd]; rfl
    rw [e]
    exact ⟨hd, hm⟩
  have hc := lc1 (e0 := e0) (i := 5) (sl := .un) (s := s2) (f := f) (ds := rangeD 0 many.toNat) (elt := (fz (mOp2 dIx (bVar 1) (fz (mOp2 dMod (fz (mOpN dInt (aCons (fz (mOp2 dAdd (bVar 3) (fz (mOp2 dMul (bVar 4) (bVar 5))))) aNil))) (fz (mOpN dLen (aCons (bVar 1) aNil)))))))) rfl fun x hx => by
    obtain ⟨k, rfl, k1, k2⟩ := mem_rangeD hx
    have ix : dIx (.lst xs) (.int ((a + (1 + b) * k).fmod xs.length)) = some (.fro (g k)) := by show (L2.atI xs _).map PV.fro = _; rw [(ok k).1]; rfl
    have mk : dMul (.int (1 + b)) (.int k) = pI ((1 + b) * k) := d_mul (mulSR (by omega) (by omega))
    simp only [e0, v_ok, v_bnd, v_ret, v_eVar, v_bVar, v_fz, v_frz, v_up, v_fro, v_op2, v_op1, v_opN, v_pv2, v_pv1, v_pvN, v_pvf, v_pvn, v_pvt, v_pI, v_pB, v_d1, v_d2, v_od, v_od2, r_int, r_bl, r_non, r_str, r_lst, r_tup, r_fzl, r_rep, r_dic, r_nil, r_cons, v_seq, v_seqn, v_seqr, v_nil, v_sif, v_mif, v_ite, v_sret, v_sretN, v_set, v_setM, v_sl1, v_sl2, v_bl, v_blP, v_tru, v_truM, v_opt, v_chain, v_chP, v_and, v_or, v_not, v_eNot, v_eAnd, v_andD, v_eOr, v_orD, v_aNil, v_aCons, v_lNil, v_lCons, v_par, v_parM, v_setE, v_setN, v_oN, v_oP, v_part, v_slc, v_call, v_callK, v_for, v_seqI, v_it1, v_it2, v_it3, v_rng1, v_rng1M, v_rng2, v_rng2M, v_enu, v_enuM, v_rv, v_rvM, v_zp, v_zp1, v_lc, v_lr1, v_sti, v_app, v_popR, d_sub, d_add, d_neg, d_eq, d_ne, d_lt, d_le, d_gt, d_ge, d_int, d_len, d_lenT, d_isN, d_isNN, t_bl, List.getElem?_cons_zero, List.getElem?_cons_succ, List.set_cons_zero, List.set_cons_succ, List.length_cons, List.length_nil, if_true, if_false, Bool.false_eq_true, mk, d_mod hl, ix, f]
  refine ⟨(rangeD 0 many.toNat).map f, s2, v_fn (e' := e0) ?_, by rw [List.length_map, rangeD_len], fun y hy => ?_, hB⟩
  · have rb : rngB many = true := by unfold rngB; rw [decide_eq_true (show (-1000000000 : Int) ≤ many by omega), decide_eq_true (show many ≤ 1000000000 by omega)]; rfl
    have hc2 := v_lcP (ds := rangeD 0 many.toNat) (vs := [5]) rfl (by rw [rangeD_len]; exact lim_le (by omega)) hc
    rw [ei]
    unfold m__law_some_primes
    simp only [v_ok, v_bnd, v_ret, v_eVar, v_bVar, v_fz, v_frz, v_up, v_fro, v_op2, v_op1, v_opN, v_pv2, v_pv1, v_pvN, v_pvf, v_pvn, v_pvt, v_pI, v_pB, v_d1, v_d2, v_od, v_od2, r_int, r_bl, r_non, r_str, r_lst, r_tup, r_fzl, r_rep, r_dic, r_nil, r_cons, v_seq, v_seqn, v_seqr, v_nil, v_sif, v_mif, v_ite, v_sret, v_sretN, v_set, v_setM, v_sl1, v_sl2, v_bl, v_blP, v_tru, v_truM, v_opt, v_chain, v_chP, v_and, v_or, v_not, v_eNot, v_eAnd, v_andD, v_eOr, v_orD, v_aNil, v_aCons, v_lNil, v_lCons, v_par, v_parM, v_setE, v_setN, v_oN, v_oP, v_part, v_slc, v_call, v_callK, v_for, v_seqI, v_it1, v_it2, v_it3, v_rng1, v_rng1M, v_rng2, v_rng2M, v_enu, v_enuM, v_rv, v_rvM, v_zp, v_zp1, v_lc, v_lr1, v_sti, v_app, v_popR, d_sub, d_add, d_neg, d_eq, d_ne, d_lt, d_le, d_gt, d_ge, d_int, d_len, d_lenT, d_isN, d_isNN, t_bl, List.getElem?_cons_zero, List.getElem?_cons_succ, List.set_cons_zero, List.set_cons_succ, List.length_cons, List.length_nil, if_true, if_false, Bool.false_eq_true, ca2 e1, ca2 e2, rb]
    simp only [e0] at hc2
    simp only [hc2, v_ok, v_bnd, v_ret, v_eVar, v_bVar, v_fz, v_frz, v_up, v_fro, v_op2, v_op1, v_opN, v_pv2, v_pv1, v_pvN, v_pvf, v_pvn, v_pvt, v_pI, v_pB, v_d1, v_d2, v_od, v_od2, r_int, r_bl, r_non, r_str, r_lst, r_tup, r_fzl, r_rep, r_dic, r_nil, r_cons, v_seq, v_seqn, v_seqr, v_nil, v_sif, v_mif, v_ite, v_sret, v_sretN, v_set, v_setM, v_sl1, v_sl2, v_bl, v_blP, v_tru, v_truM, v_opt, v_chain, v_chP, v_and, v_or, v_not, v_eNot, v_eAnd, v_andD, v_eOr, v_orD, v_aNil, v_aCons, v_lNil, v_lCons, v_par, v_parM, v_setE, v_setN, v_oN, v_oP, v_part, v_slc, v_call, v_callK, v_for, v_seqI, v_it1, v_it2, v_it3, v_rng1, v_rng1M, v_rng2, v_rng2M, v_enu, v_enuM, v_rv, v_rvM, v_zp, v_zp1, v_lc, v_lr1, v_sti, v_app, v_popR, d_sub, d_add, d_neg, d_eq, d_ne, d_lt, d_le, d_gt, d_ge, d_int, d_len, d_lenT, d_isN, d_isNN, t_bl, List.getElem?_cons_zero, List.getElem?_cons_succ, List.set_cons_zero, List.set_cons_succ, List.length_cons, List.length_nil, if_true, if_false, Bool.false_eq_true]
    rfl
  · obtain ⟨x, hx, rfl⟩ := List.mem_map.mp hy
    obtain ⟨k, rfl, _, _⟩ := mem_rangeD hx
    exact (ok k).2
theorem cut63 {xs : List D} (h : xs.length ≤ 63) : cutD xs none (some 63) = xs := by
  unfold cutD
  rw [show HT.sIx xs.length xs.length (some 63) = min 63 xs.length from HT.sIx_nat _ _ 63, HT.sIx_none]
  rw [Nat.min_eq_right h, List.drop_zero, Nat.sub_zero]
  exact List.take_of_length_le (Nat.le_refl _)
def absI (i : Int) : Int := if i < 0 then -i else i
theorem bag_ok {ns : List Int} (h : ns.length ≤ 63) : ∃ st, fn__law_own_bag [.fzl (ns.map D.int)] [] = .ok (.ref 0) st ∧ Bag st := by
  have ei : ini 4 [.fzl (ns.map D.int)] = [.val (.fzl (ns.map D.int)), .un, .un, .un] := rfl
  let e0 : En := [.val (.fzl (ns.map D.int)), .un, .un, .un]
  let cs : List Int := ns.map absI
  let f : D → D := fun x => match x with | .int k => .int (absI k) | d => d
  have sl : dSl none (some 63) (.fzl (ns.map D.int)) = some (.new (.lst (ns.map D.int))) := by
    show some (PV.new (.lst (cutD (ns.map D.int) none (some 63)))) = _
    rw [cut63 (by rw [List.length_map]; exact h)]
  have ab : ∀ k, dAbs [.int k] = pI (absI k) := fun k => rfl
  have hf : (ns.map D.int).map f = cs.map D.int := by
    show (ns.map D.int).map f = (ns.map absI).map D.int
    rw [List.map_map, List.map_map]
    rfl
  have hc := lc1 (e0 := e0) (i := 2) (sl := .un) (s := []) (f := f) (ds := ns.map D.int) (elt := (fz (mOpN dAbs (aCons (fz (mOpN dInt (aCons (bVar 2) aNil))) aNil)))) rfl fun x hx => by
    obtain ⟨k, _, rfl⟩ := List.mem_map.mp hx
    simp only [e0, v_ok, v_bnd, v_ret, v_eVar, v_bVar, v_fz, v_frz, v_up, v_fro, v_op2, v_op1, v_opN, v_pv2, v_pv1, v_pvN, v_pvf, v_pvn, v_pvt, v_pI, v_pB, v_d1, v_d2, v_od, v_od2, r_int, r_bl, r_non, r_str, r_lst, r_tup, r_fzl, r_rep, r_dic, r_nil, r_cons, v_seq, v_seqn, v_seqr, v_nil, v_sif, v_mif, v_ite, v_sret, v_sretN, v_set, v_setM, v_sl1, v_sl2, v_bl, v_blP, v_tru, v_truM, v_opt, v_chain, v_chP, v_and, v_or, v_not, v_eNot, v_eAnd, v_andD, v_eOr, v_orD, v_aNil, v_aCons, v_lNil, v_lCons, v_par, v_parM, v_setE, v_setN, v_oN, v_oP, v_part, v_slc, v_call, v_callK, v_for, v_seqI, v_it1, v_it2, v_it3, v_rng1, v_rng1M, v_rng2, v_rng2M, v_enu, v_enuM, v_rv, v_rvM, v_zp, v_zp1, v_lc, v_lr1, v_sti, v_app, v_popR, d_sub, d_add, d_neg, d_eq, d_ne, d_lt, d_le, d_gt, d_ge, d_int, d_len, d_lenT, d_isN, d_isNN, t_bl, List.getElem?_cons_zero, List.getElem?_cons_succ, List.set_cons_zero, List.set_cons_succ, List.length_cons, List.length_nil, if_true, if_false, Bool.false_eq_true, ab, f]
  rw [hf] at hc
  have hc2 := v_lcP (ds := ns.map D.int) (vs := [2]) rfl (by rw [List.length_map]; exact lim_le (by omega)) hc
  have s1 : sSet 1 (pLc (iSeq (fz (mSl (bVar 0) oNone (oPart (ret (D.int 63)))))) (tgN 2) tstT (fz (mOpN dAbs (aCons (fz (mOpN dInt (aCons (bVar 2) aNil))) aNil))) [2]) e0 [] = .ok .nx [.val (.fzl (ns.map D.int)), .own (.lst (cs.map D.int)), .un, .un] [] := by
    simp only [e0] at hc2
    simp only [e0, v_ok, v_bnd, v_ret, v_eVar, v_bVar, v_fz, v_frz, v_up, v_fro, v_op2, v_op1, v_opN, v_pv2, v_pv1, v_pvN, v_pvf, v_pvn, v_pvt, v_pI, v_pB, v_d1, v_d2, v_od, v_od2, r_int, r_bl, r_non, r_str, r_lst, r_tup, r_fzl, r_rep, r_dic, r_nil, r_cons, v_seq, v_seqn, v_seqr, v_nil, v_sif, v_mif, v_ite, v_sret, v_sretN, v_set, v_setM, v_sl1, v_sl2, v_bl, v_blP, v_tru, v_truM, v_opt, v_chain, v_chP, v_and, v_or, v_not, v_eNot, v_eAnd, v_andD, v_eOr, v_orD, v_aNil, v_aCons, v_lNil, v_lCons, v_par, v_parM, v_setE, v_setN, v_oN, v_oP, v_part, v_slc, v_call, v_callK, v_for, v_seqI, v_it1, v_it2, v_it3, v_rng1, v_rng1M, v_rng2, v_rng2M, v_enu, v_enuM, v_rv, v_rvM, v_zp, v_zp1, v_lc, v_lr1, v_sti, v_app, v_popR, d_sub, d_add, d_neg, d_eq, d_ne, d_lt, d_le, d_gt, d_ge, d_int, d_len, d_lenT, d_isN, d_isNN, t_bl, List.getElem?_cons_zero, List.getElem?_cons_succ, List.set_cons_zero, List.set_cons_succ, List.length_cons, List.length_nil, if_true, if_false, Bool.false_eq_true, sl, hc2]
  have s2 : sSet 3 (mOp2 dAdd (ret (D.int 2468)) (fz (mOpN dLen (aCons (bVar 1) aNil)))) [.val (.fzl (ns.map D.int)), .own (.lst (cs.map D.int)), .un, .un] [] = .ok .nx [.val (.fzl (ns.map D.int)), .own (.lst (cs.map D.int)), .un, .val (.int (2468 + ((cs.map D.int).length : Nat)))] [] := by
    simp only [v_ok, v_bnd, v_ret, v_eVar, v_bVar, v_fz, v_frz, v_up, v_fro, v_op2, v_op1, v_opN, v_pv2, v_pv1, v_pvN, v_pvf, v_pvn, v_pvt, v_pI, v_pB, v_d1, v_d2, v_od, v_od2, r_int, r_bl, r_non, r_str, r_lst, r_tup, r_fzl, r_rep, r_dic, r_nil, r_cons, v_seq, v_seqn, v_seqr, v_nil, v_sif, v_mif, v_ite, v_sret, v_sretN, v_set, v_setM, v_sl1, v_sl2, v_bl, v_blP, v_tru, v_truM, v_opt, v_chain, v_chP, v_and, v_or, v_not, v_eNot, v_eAnd, v_andD, v_eOr, v_orD, v_aNil, v_aCons, v_lNil, v_lCons, v_par, v_parM, v_setE, v_setN, v_oN, v_oP, v_part, v_slc, v_call, v_callK, v_for, v_seqI, v_it1, v_it2, v_it3, v_rng1, v_rng1M, v_rng2, v_rng2M, v_enu, v_enuM, v_rv, v_rvM, v_zp, v_zp1, v_lc, v_lr1, v_sti, v_app, v_popR, d_sub, d_add, d_neg, d_eq, d_ne, d_lt, d_le, d_gt, d_ge, d_int, d_len, d_lenT, d_isN, d_isNN, t_bl, List.getElem?_cons_zero, List.getElem?_cons_succ, List.set_cons_zero, List.set_cons_succ, List.length_cons, List.length_nil, if_true, if_false, Bool.false_eq_true]
  have hm : 0 ≤ 2468 + (((cs.map D.int).length : Nat) : Int) ∧ 2468 + (((cs.map D.int).length : Nat) : Int) < 2147483647 := by
    have : (cs.map D.int).length = ns.length := by simp [cs]
    omega
  obtain ⟨e', s', h3, x2, m, rfl, rfl, m1, m2, _⟩ := forL_ok (tg := tgN 2) (B := (sSeq (sSet 3 (mOp2 dMod (fz (mOpN dInt (aCons (fz (mOp2 dAdd (fz (mOp2 dAdd (fz (mOp2 dMul (bVar 3) (ret (D.int 48271)))) (fz (mOp2 dMod (bVar 2) (ret (D.int 2147483629)))))) (ret (D.int 7)))) aNil))) (ret (D.int 2147483647)))) sNil))
    (fun ds e s => ∃ (x2 : Sl) (m : Int), e = [.val (.fzl (ns.map D.int)), .val (.lst (cs.map D.int)), x2, .val (.int m)] ∧ s = [] ∧ 0 ≤ m ∧ m < 2147483647 ∧ ∀ d ∈ ds, ∃ k, d = D.int k) (fun x r e s J => by
      obtain ⟨x2, m, rfl, rfl, m1, m2, hd⟩ := J
      obtain ⟨k, rfl⟩ := hd x (List.mem_cons_self ..)
      refine ⟨_, _, [], rfl, ?_, .val (.int k), (m * 48271 + k.fmod 2147483629 + 7).fmod 2147483647, rfl, rfl, ?_, ?_, fun d m => hd d (List.mem_cons_of_mem _ m)⟩
      · simp only [v_ok, v_bnd, v_ret, v_eVar, v_bVar, v_fz, v_frz, v_up, v_fro, v_op2, v_op1, v_opN, v_pv2, v_pv1, v_pvN, v_pvf, v_pvn, v_pvt, v_pI, v_pB, v_d1, v_d2, v_od, v_od2, r_int, r_bl, r_non, r_str, r_lst, r_tup, r_fzl, r_rep, r_dic, r_nil, r_cons, v_seq, v_seqn, v_seqr, v_nil, v_sif, v_mif, v_ite, v_sret, v_sretN, v_set, v_setM, v_sl1, v_sl2, v_bl, v_blP, v_tru, v_truM, v_opt, v_chain, v_chP, v_and, v_or, v_not, v_eNot, v_eAnd, v_andD, v_eOr, v_orD, v_aNil, v_aCons, v_lNil, v_lCons, v_par, v_parM, v_setE, v_setN, v_oN, v_oP, v_part, v_slc, v_call, v_callK, v_for, v_seqI, v_it1, v_it2, v_it3, v_rng1, v_rng1M, v_rng2, v_rng2M, v_enu, v_enuM, v_rv, v_rvM, v_zp, v_zp1, v_lc, v_lr1, v_sti, v_app, v_popR, d_sub, d_add, d_neg, d_eq, d_ne, d_lt, d_le, d_gt, d_ge, d_int, d_len, d_lenT, d_isN, d_isNN, t_bl, List.getElem?_cons_zero, List.getElem?_cons_succ, List.set_cons_zero, List.set_cons_succ, List.length_cons, List.length_nil, if_true, if_false, Bool.false_eq_true, d_mul (mulSR (j := 48271) (by decide) (by decide)), d_mod (show (2147483629 : Int) ≠ 0 by decide), d_mod (show (2147483647 : Int) ≠ 0 by decide)]
      · rw [Int.fmod_eq_emod_of_nonneg _ (by decide)]; exact Int.emod_nonneg _ (by decide)
      · rw [Int.fmod_eq_emod_of_nonneg _ (by decide)]; exact Int.emod_lt_of_pos _ (by decide)) (ds := cs.map D.int) (e := [.val (.fzl (ns.map D.int)), .val (.lst (cs.map D.int)), .un, .val (.int (2468 + ((cs.map D.int).length : Nat)))]) (s := [])
    ⟨.un, _, rfl, rfl, hm.1, hm.2, fun d m => by obtain ⟨k, _, rfl⟩ := List.mem_map.mp m; exact ⟨k, rfl⟩⟩
  have hl : (cs.map D.int).length ≤ lim := lim_le (by simp [cs]; omega)
  have dl : dList [.lst (cs.map D.int)] = some (.new (.lst (cs.map D.int))) := by
    first | rfl | (unfold dList; exact if_pos hl) | (show (if _ then _ else _) = _; exact if_pos hl)
  have sc : (cs.map D.int).all scal1 = true := by
    rw [List.all_eq_true]
    intro d hd
    obtain ⟨k, _, rfl⟩ := List.mem_map.mp hd
    rfl
  have bm : bagM (.lst (cs.map D.int)) (.int m) [.val (.fzl (ns.map D.int)), .val (.lst (cs.map D.int)), x2, .val (.int m)] [] = .ok (.ref 0) [.val (.fzl (ns.map D.int)), .val (.lst (cs.map D.int)), x2, .val (.int m)] [[.ref 1, .int 0, .int m], (cs.map D.int).reverse] := by
    show (if (cs.map D.int).all scal1 && scal1 (.int m) && decide ((cs.map D.int).length ≤ lim) then _ else _) = _
    rw [sc, decide_eq_true hl]
    rfl
  have il : ∀ e s, isL (.lst (cs.map D.int)) e s = .ok () e s := fun e s => rfl
  refine ⟨[[.ref 1, .int 0, .int m], (cs.map D.int).reverse], v_fn (e' := [.val (.fzl (ns.map D.int)), .val (.lst (cs.map D.int)), x2, .val (.int m)]) ?_, cs.reverse, 0, m, ?_, by simp [cs]; exact h, by decide, m1, m2⟩
  · rw [ei]
    show (sSeq _ _) e0 [] = _
    rw [v_seq, s1, v_ok, v_seqn, v_seq, s2, v_ok, v_seqn]
    simp only [v_ok, v_bnd, v_ret, v_eVar, v_bVar, v_fz, v_frz, v_up, v_fro, v_op2, v_op1, v_opN, v_pv2, v_pv1, v_pvN, v_pvf, v_pvn, v_pvt, v_pI, v_pB, v_d1, v_d2, v_od, v_od2, r_int, r_bl, r_non, r_str, r_lst, r_tup, r_fzl, r_rep, r_dic, r_nil, r_cons, v_seq, v_seqn, v_seqr, v_nil, v_sif, v_mif, v_ite, v_sret, v_sretN, v_set, v_setM, v_sl1, v_sl2, v_bl, v_blP, v_tru, v_truM, v_opt, v_chain, v_chP, v_and, v_or, v_not, v_eNot, v_eAnd, v_andD, v_eOr, v_orD, v_aNil, v_aCons, v_lNil, v_lCons, v_par, v_parM, v_setE, v_setN, v_oN, v_oP, v_part, v_slc, v_call, v_callK, v_for, v_seqI, v_it1, v_it2, v_it3, v_rng1, v_rng1M, v_rng2, v_rng2M, v_enu, v_enuM, v_rv, v_rvM, v_zp, v_zp1, v_lc, v_lr1, v_sti, v_app, v_popR, d_sub, d_add, d_neg, d_eq, d_ne, d_lt, d_le, d_gt, d_ge, d_int, d_len, d_lenT, d_isN, d_isNN, t_bl, List.getElem?_cons_zero, List.getElem?_cons_succ, List.set_cons_zero, List.set_cons_succ, List.length_cons, List.length_nil, if_true, if_false, Bool.false_eq_true, h3, dl, show ∀ a b e s, eBag a b e s = (a e s).thn fun x => bnd (isL x) fun _ => bnd b (bagM x) from fun _ _ _ _ => rfl, il, bm]
  · unfold bagS
    rw [List.map_reverse]
/-! squares -/
def sgn (q r : Int) : Int := if r = 0 then 0 else if ((List.range ((q / 2 + 1 - 1).toNat)).any fun j => decide (((1 + (j : Int)) * (1 + (j : Int))).fmod q = r)) = true then 1 else -1
def rts (q r : Int) : List Int := ((List.range (q / 2 + 1).toNat).map fun (j : Nat) => (0 : Int) + (j : Int)).filter fun k => decide ((k * k).fmod q = r)
def rtO (q r : Int) : Option Int := (rts q r).head?
def toD : Option Int → D
  | some k => .int k
  | none => .non
theorem bls_map {α : Type} (h : α → Bool) : ∀ l : List α, blsD (l.map fun j => D.bl (h j)) = some (l.map h)
  | [] => rfl
  | x :: r => by
    show (blsD (r.map fun j => D.bl (h j))).map (h x :: ·) = _
    rw [bls_map h r]
    rfl
theorem ints_map {α : Type} (h : α → Int) : ∀ l : List α, intsD (l.map fun j => D.int (h j)) = some (l.map h)
  | [] => rfl
  | x :: r => by
    show (intsD (r.map fun j => D.int (h j))).map (h x :: ·) = _
    rw [ints_map h r]
    rfl
theorem rngB_of {i : Int} (h1 : -1000000000 ≤ i) (h2 : i ≤ 1000000000) : rngB i = true := by
  unfold rngB
  rw [decide_eq_true h1, decide_eq_true h2]
  rfl
theorem sign_ok {st : Sto} {q n : Int} (h1 : 0 < q) (h2 : q ≤ 100) : fn_square_sign [.int q, .int n] st = .ok (.int (sgn q (n.fmod q))) st := by
  have ei : ini 4 [.int q, .int n] = [.val (.int q), .val (.int n), .un, .un] := rfl
  have q0 : q ≠ 0 := by omega
  obtain ⟨r, hr⟩ : ∃ r, r = n.fmod q := ⟨_, rfl⟩
  rw [← hr]
  refine v_fn (e' := [.val (.int q), .val (.int n), .val (.int r), .un]) ?_
  rw [ei]
  by_cases h0 : r = 0
  · have e : sgn q r = 0 := if_pos h0
    rw [e]
    unfold m_square_sign
    simp only [v_ok, v_bnd, v_ret, v_eVar, v_bVar, v_fz, v_frz, v_up, v_fro, v_op2, v_op1, v_opN, v_pv2, v_pv1, v_pvN, v_pvf, v_pvn, v_pvt, v_pI, v_pB, v_d1, v_d2, v_od, v_od2, r_int, r_bl, r_non, r_str, r_lst, r_tup, r_fzl, r_rep, r_dic, r_nil, r_cons, v_seq, v_seqn, v_seqr, v_nil, v_sif, v_mif, v_ite, v_sret, v_sretN, v_set, v_setM, v_sl1, v_sl2, v_bl, v_blP, v_tru, v_truM, v_opt, v_chain, v_chP, v_and, v_or, v_not, v_eNot, v_eAnd, v_andD, v_eOr, v_orD, v_aNil, v_aCons, v_lNil, v_lCons, v_par, v_parM, v_setE, v_setN, v_oN, v_oP, v_part, v_slc, v_call, v_callK, v_for, v_seqI, v_it1, v_it2, v_it3, v_rng1, v_rng1M, v_rng2, v_rng2M, v_enu, v_enuM, v_rv, v_rvM, v_zp, v_zp1, v_lc, v_lr1, v_sti, v_app, v_popR, d_sub, d_add, d_neg, d_eq, d_ne, d_lt, d_le, d_gt, d_ge, d_int, d_len, d_lenT, d_isN, d_isNN, t_bl, List.getElem?_cons_zero, List.getElem?_cons_succ, List.set_cons_zero, List.set_cons_succ, List.length_cons, List.length_nil, if_true, if_false, Bool.false_eq_true, d_mod q0, ← hr, h0, decide_true]
  · let f : D → D := fun x => match x with | .int k => .bl (decide ((k * k).fmod q = r)) | d => d
    have hc := lc1 (e0 := [.val (.int q), .val (.int n), .val (.int r), .un]) (i := 3) (sl := .un) (s := st) (f := f) (ds := rangeD 1 (q / 2 + 1 - 1).toNat) (elt := (fz (mOp2 dEq (fz (mOp2 dMod (fz (mOp2 dMul (bVar 3) (bVar 3))) (bVar 0))) (bVar 2)))) rfl fun x hx => by
      obtain ⟨k, rfl, k1, k2⟩ := mem_rangeD hx
      simp only [v_ok, v_bnd, v_ret, v_eVar, v_bVar, v_fz, v_frz, v_up, v_fro, v_op2, v_op1, v_opN, v_pv2, v_pv1, v_pvN, v_pvf, v_pvn, v_pvt, v_pI, v_pB, v_d1, v_d2, v_od, v_od2, r_int, r_bl, r_non, r_str, r_lst, r_tup, r_fzl, r_rep, r_dic, r_nil, r_cons, v_seq, v_seqn, v_seqr, v_nil, v_sif, v_mif, v_ite, v_sret, v_sretN, v_set, v_setM, v_sl1, v_sl2, v_bl, v_blP, v_tru, v_truM, v_opt, v_chain, v_chP, v_and, v_or, v_not, v_eNot, v_eAnd, v_andD, v_eOr, v_orD, v_aNil, v_aCons, v_lNil, v_lCons, v_par, v_parM, v_setE, v_setN, v_oN, v_oP, v_part, v_slc, v_call, v_callK, v_for, v_seqI, v_it1, v_it2, v_it3, v_rng1, v_rng1M, v_rng2, v_rng2M, v_enu, v_enuM, v_rv, v_rvM, v_zp, v_zp1, v_lc, v_lr1, v_sti, v_app, v_popR, d_sub, d_add, d_neg, d_eq, d_ne, d_lt, d_le, d_gt, d_ge, d_int, d_len, d_lenT, d_isN, d_isNN, t_bl, List.getElem?_cons_zero, List.getElem?_cons_succ, List.set_cons_zero, List.set_cons_succ, List.length_cons, List.length_nil, if_true, if_false, Bool.false_eq_true, d_mul (mulSL (i := k) (j := k) (by omega) (by omega)), d_mod q0, f]
    have hc2 := v_lcP (ds := rangeD 1 (q / 2 + 1 - 1).toNat) (vs := [3]) rfl (by rw [rangeD_len]; exact lim_le (by omega)) hc
    have ha : dAny [.lst ((rangeD 1 (q / 2 + 1 - 1).toNat).map f)] = some (.fro (.bl ((List.range (q / 2 + 1 - 1).toNat).any fun j => decide (((1 + (j : Int)) * (1 + (j : Int))).fmod q = r)))) := by
      have e : (rangeD 1 (q / 2 + 1 - 1).toNat).map f = (List.range (q / 2 + 1 - 1).toNat).map fun (j : Nat) => D.bl (decide (((1 + (j : Int)) * (1 + (j : Int))).fmod q = r)) := by
        unfold rangeD
        rw [List.map_map]
        rfl
      rw [e]
      show (blsD _).map _ = _
      rw [bls_map]
      show some (PV.fro (D.bl ((List.map _ _).any id))) = _
      rw [List.any_map]
      rfl
    have es : sgn q r = if ((List.range ((q / 2 + 1 - 1).toNat)).any fun j => decide (((1 + (j : Int)) * (1 + (j : Int))).fmod q = r)) = true then 1 else -1 := if_neg h0
    rw [es]
    unfold m_square_sign
    simp only [v_ok, v_bnd, v_ret, v_eVar, v_bVar, v_fz, v_frz, v_up, v_fro, v_op2, v_op1, v_opN, v_pv2, v_pv1, v_pvN, v_pvf, v_pvn, v_pvt, v_pI, v_pB, v_d1, v_d2, v_od, v_od2, r_int, r_bl, r_non, r_str, r_lst, r_tup, r_fzl, r_rep, r_dic, r_nil, r_cons, v_seq, v_seqn, v_seqr, v_nil, v_sif, v_mif, v_ite, v_sret, v_sretN, v_set, v_setM, v_sl1, v_sl2, v_bl, v_blP, v_tru, v_truM, v_opt, v_chain, v_chP, v_and, v_or, v_not, v_eNot, v_eAnd, v_andD, v_eOr, v_orD, v_aNil, v_aCons, v_lNil, v_lCons, v_par, v_parM, v_setE, v_setN, v_oN, v_oP, v_part, v_slc, v_call, v_callK, v_for, v_seqI, v_it1, v_it2, v_it3, v_rng1, v_rng1M, v_rng2, v_rng2M, v_enu, v_enuM, v_rv, v_rvM, v_zp, v_zp1, v_lc, v_lr1, v_sti, v_app, v_popR, d_sub, d_add, d_neg, d_eq, d_ne, d_lt, d_le, d_gt, d_ge, d_int, d_len, d_lenT, d_isN, d_isNN, t_bl, List.getElem?_cons_zero, List.getElem?_cons_succ, List.set_cons_zero, List.set_cons_succ, List.length_cons, List.length_nil, if_true, if_false, Bool.false_eq_true, d_mod q0, ← hr, h0, decide_false, d_div (show divOk 2 = true by decide), rngB_of (show (-1000000000 : Int) ≤ q / 2 + 1 by omega) (by omega), show rngB 1 = true by decide, Bool.and_self, hc2, ha]
    by_cases hh : ((List.range ((q / 2 + 1 - 1).toNat)).any fun j => decide (((1 + (j : Int)) * (1 + (j : Int))).fmod q = r)) = true
    · simp only [hh, v_ok, v_bnd, v_ret, v_eVar, v_bVar, v_fz, v_frz, v_up, v_fro, v_op2, v_op1, v_opN, v_pv2, v_pv1, v_pvN, v_pvf, v_pvn, v_pvt, v_pI, v_pB, v_d1, v_d2, v_od, v_od2, r_int, r_bl, r_non, r_str, r_lst, r_tup, r_fzl, r_rep, r_dic, r_nil, r_cons, v_seq, v_seqn, v_seqr, v_nil, v_sif, v_mif, v_ite, v_sret, v_sretN, v_set, v_setM, v_sl1, v_sl2, v_bl, v_blP, v_tru, v_truM, v_opt, v_chain, v_chP, v_and, v_or, v_not, v_eNot, v_eAnd, v_andD, v_eOr, v_orD, v_aNil, v_aCons, v_lNil, v_lCons, v_par, v_parM, v_setE, v_setN, v_oN, v_oP, v_part, v_slc, v_call, v_callK, v_for, v_seqI, v_it1, v_it2, v_it3, v_rng1, v_rng1M, v_rng2, v_rng2M, v_enu, v_enuM, v_rv, v_rvM, v_zp, v_zp1, v_lc, v_lr1, v_sti, v_app, v_popR, d_sub, d_add, d_neg, d_eq, d_ne, d_lt, d_le, d_gt, d_ge, d_int, d_len, d_lenT, d_isN, d_isNN, t_bl, List.getElem?_cons_zero, List.getElem?_cons_succ, List.set_cons_zero, List.set_cons_succ, List.length_cons, List.length_nil, if_true, if_false, Bool.false_eq_true]
    · simp only [Bool.not_eq_true] at hh
      simp only [hh, v_ok, v_bnd, v_ret, v_eVar, v_bVar, v_fz, v_frz, v_up, v_fro, v_op2, v_op1, v_opN, v_pv2, v_pv1, v_pvN, v_pvf, v_pvn, v_pvt, v_pI, v_pB, v_d1, v_d2, v_od, v_od2, r_int, r_bl, r_non, r_str, r_lst, r_tup, r_fzl, r_rep, r_dic, r_nil, r_cons, v_seq, v_seqn, v_seqr, v_nil, v_sif, v_mif, v_ite, v_sret, v_sretN, v_set, v_setM, v_sl1, v_sl2, v_bl, v_blP, v_tru, v_truM, v_opt, v_chain, v_chP, v_and, v_or, v_not, v_eNot, v_eAnd, v_andD, v_eOr, v_orD, v_aNil, v_aCons, v_lNil, v_lCons, v_par, v_parM, v_setE, v_setN, v_oN, v_oP, v_part, v_slc, v_call, v_callK, v_for, v_seqI, v_it1, v_it2, v_it3, v_rng1, v_rng1M, v_rng2, v_rng2M, v_enu, v_enuM, v_rv, v_rvM, v_zp, v_zp1, v_lc, v_lr1, v_sti, v_app, v_popR, d_sub, d_add, d_neg, d_eq, d_ne, d_lt, d_le, d_gt, d_ge, d_int, d_len, d_lenT, d_isN, d_isNN, t_bl, List.getElem?_cons_zero, List.getElem?_cons_succ, List.set_cons_zero, List.set_cons_succ, List.length_cons, List.length_nil, if_true, if_false, Bool.false_eq_true]
def rootsT (q : Int) : List D := (List.range q.toNat).map fun (r : Nat) => toD (rtO q (r : Int))
def signsT (q : Int) : List Int := (List.range q.toNat).map fun (r : Nat) => sgn q (r : Int)
theorem pcase {P : Int → Prop} (a : P 3) (b : P 5) (c : P 7) (d : P 11) (e : P 13) (f : P 17) (g : P 19) (h : P 23) (i : P 29) (j : P 31) (k : P 37) (l : P 41) (m : P 43) (n : P 47) (o : P 53) (p : P 59) (q : P 61) : ∀ x ∈ primes, P x := by
  intro x hx
  unfold primes at hx
  simp only [List.mem_cons, List.not_mem_nil, or_false] at hx
  rcases hx with z | z | z | z | z | z | z | z | z | z | z | z | z | z | z | z | z <;> subst z <;> assumption
theorem prime_pos : ∀ q ∈ primes, 0 < q ∧ q ≤ 61 := by decide
theorem roots_tab : ∀ q ∈ primes, ∀ st, fn__law_roots [.int q] st = .ok (.lst (rootsT q)) st :=
  pcase (fun st => by kernel_rfl) (fun st => by kernel_rfl) (fun st => by kernel_rfl) (fun st => by kernel_rfl) (fun st => by kernel_rfl) (fun st => by kernel_rfl) (fun st => by kernel_rfl) (fun st => by kernel_rfl) (fun st => by kernel_rfl) (fun st => by kernel_rfl) (fun st => by kernel_rfl) (fun st => by kernel_rfl) (fun st => by kernel_rfl) (fun st => by kernel_rfl) (fun st => by kernel_rfl) (fun st => by kernel_rfl) (fun st => by kernel_rfl)
theorem signs_tab : ∀ q ∈ primes, ∀ st, fn__law_signs [.int q] st = .ok (.lst ((signsT q).map D.int)) st :=
  pcase (fun st => by kernel_rfl) (fun st => by kernel_rfl) (fun st => by kernel_rfl) (fun st => by kernel_rfl) (fun st => by kernel_rfl) (fun st => by kernel_rfl) (fun st => by kernel_rfl) (fun st => by kernel_rfl) (fun st => by kernel_rfl) (fun st => by kernel_rfl) (fun st => by kernel_rfl) (fun st => by kernel_rfl) (fun st => by kernel_rfl) (fun st => by kernel_rfl) (fun st => by kernel_rfl) (fun st => by kernel_rfl) (fun st => by kernel_rfl)
theorem fmod_nat {n q : Int} (h : 0 < q) : ∃ r : Nat, n.fmod q = (r : Int) ∧ r < q.toNat := by
  have e : n.fmod q = n % q := Int.fmod_eq_emod_of_nonneg _ (by omega)
  have h1 : 0 ≤ n % q := Int.emod_nonneg _ (by omega)
  have h2 : n % q < q := Int.emod_lt_of_pos _ h
  refine ⟨(n % q).toNat, by omega, by omega⟩
theorem shI_of {k : Int} (h1 : -1000000000000000000000000000000000000 < k) (h2 : k < 1000000000000000000000000000000000000) : shI k = true := by
  unfold shI
  rw [decide_eq_true (Int.lt_trans (by decide +kernel) h1), decide_eq_true (Int.lt_trans h2 (by decide +kernel))]
  rfl
theorem at_map {α : Type} (f : Nat → α) {n r : Nat} (h : r < n) : L2.atI ((List.range n).map f) (r : Int) = some (f r) := L2.atI_nat (by rw [List.getElem?_map, List.getElem?_range h]; rfl)
theorem eq_bl (a b : Bool) : dEq (.bl a) (.bl b) = pB (a == b) := by cases a <;> cases b <;> kernel_rfl
def masks : List (Nat × Nat) := [(3, 2), (5, 18), (7, 22), (11, 570), (13, 5658), (17, 107286), (19, 199410), (23, 340830), (29, 332473074), (31, 303908790), (37, 96068509338), (41, 1870503675702), (43, 3678700564050), (47, 4626135339998), (53, 5310023542746834), (59, 156326468341437114), (61, 1662926210933060154)]
def sgnM (m r : Nat) : Int := if r = 0 then 0 else if m.testBit r then 1 else -1
def mulM (q m : Nat) : Bool := (List.range q).all fun a => (List.range q).all fun b => a == 0 || b == 0 || (!(a * b % q == 0) && (m.testBit (a * b % q) == (m.testBit a == m.testBit b)))
def mulZ (q : Nat) : Bool := (List.range q).all fun a => (List.range q).all fun b => !(a == 0 || b == 0) || a * b % q == 0
def agree (q m : Nat) : Bool := (List.range q).all fun r => decide (sgn (q : Int) (r : Int) = sgnM m r)
theorem masks_ok : (masks.all fun p => agree p.1 p.2 && mulM p.1 p.2) = true := by decide +kernel
theorem prime_mask : ∀ q ∈ primes, ∃ m, (q.toNat, m) ∈ masks := by
  have : (primes.all fun q => masks.any fun p => decide (p.1 = q.toNat)) = true := by decide +kernel
  intro q hq
  obtain ⟨p, hp, e⟩ := List.any_eq_true.mp (List.all_eq_true.mp this q hq)
  exact ⟨p.2, by rw [← of_decide_eq_true e]; exact hp⟩
theorem sgnM_mul {q m a b : Nat} (h : mulM q m = true) (ha : a < q) (hb : b < q) : sgnM m (a * b % q) = sgnM m a * sgnM m b := by
  have h1 := List.all_eq_true.mp (List.all_eq_true.mp h a (List.mem_range.mpr ha)) b (List.mem_range.mpr hb)
  by_cases a0 : a = 0
  · subst a0; simp [sgnM]
  by_cases b0 : b = 0
  · subst b0; simp [sgnM]
  have h2 : (a == 0) = false := by simp [a0]
  have h3 : (b == 0) = false := by simp [b0]
  rw [h2, h3, Bool.false_or, Bool.false_or, Bool.and_eq_true] at h1
  have h4 : a * b % q ≠ 0 := by simpa using h1.1
  have h5 := h1.2
  unfold sgnM
  rw [if_neg a0, if_neg b0, if_neg h4]
  cases x : m.testBit a <;> cases y : m.testBit b <;> rw [x, y] at h5 <;> simp at h5 <;> rw [h5] <;> decide
theorem sgn_mul {q : Int} (hq : q ∈ primes) (x y : Int) : sgn q ((x * y).fmod q) = sgn q (x.fmod q) * sgn q (y.fmod q) := by
  obtain ⟨m, hm⟩ := prime_mask q hq
  obtain ⟨q1, q2⟩ := prime_pos q hq
  have hh := List.all_eq_true.mp masks_ok _ hm
  rw [Bool.and_eq_true] at hh
  obtain ⟨a, ea, la⟩ := fmod_nat (n := x) q1
  obtain ⟨b, eb, lb⟩ := fmod_nat (n := y) q1
  have ex : (x * y).fmod q = ((a * b % q.toNat : Nat) : Int) := by
    rw [Int.fmod_eq_emod_of_nonneg _ (by omega)] at ea eb ⊢
    rw [Int.mul_emod, ea, eb]
    have : (q.toNat : Int) = q := Int.toNat_of_nonneg (by omega)
    rw [Int.natCast_emod, Int.natCast_mul, this]
  have ag : ∀ r : Nat, r < q.toNat → sgn q r = sgnM m r := fun r hr => by
    have := of_decide_eq_true (List.all_eq_true.mp hh.1 r (List.mem_range.mpr hr))
    have e : ((q.toNat : Nat) : Int) = q := Int.toNat_of_nonneg (by omega)
    simp only [e] at this
    exact this
  have hqn : 0 < q.toNat := by omega
  rw [ex, ea, eb, ag _ (Nat.mod_lt _ hqn), ag _ la, ag _ lb]
  exact sgnM_mul hh.2 la lb
theorem sgn_cases (q r : Int) : sgn q r = 0 ∨ sgn q r = 1 ∨ sgn q r = -1 := by
  unfold sgn
  split
  · exact .inl rfl
  · split
    · exact .inr (.inl rfl)
    · exact .inr (.inr rfl)
theorem enum_mem : ∀ (xs : List D) (i : Nat) (d : D), d ∈ enumD i xs → ∃ (k : Nat) (x : D), d = .tup [.int k, x] ∧ x ∈ xs
  | [], _, _, h => by cases h
  | x :: r, i, d, h => by
    rcases List.mem_cons.mp h with h | h
    · exact ⟨i, x, h, List.mem_cons_self ..⟩
    · obtain ⟨k, y, e, m⟩ := enum_mem r (i + 1) d h
      exact ⟨k, y, e, List.mem_cons_of_mem _ m⟩
theorem prime_of {d : D} (h : d ∈ primesD) : ∃ q ∈ primes, d = .int q := by
  have e : primesD = primes.map D.int := rfl
  rw [e] at h
  obtain ⟨q, hq, rfl⟩ := List.mem_map.mp h
  exact ⟨q, hq, rfl⟩
/-! sums of signs -/
def sumR (n : Nat) (F : Nat → Int) : Int := ((List.range n).map F).sum
theorem sumR_congr {n : Nat} {F G : Nat → Int} (h : ∀ j, j < n → F j = G j) : sumR n F = sumR n G := by
  unfold sumR
  rw [List.map_congr_left fun j hj => h j (List.mem_range.mp hj)]
theorem sumR_mul (c : Int) (F : Nat → Int) : ∀ n : Nat, sumR n (fun j => c * F j) = c * sumR n F := by
  have : ∀ l : List Nat, (l.map fun j => c * F j).sum = c * (l.map F).sum := by
    intro l
    induction l with
    | nil => simp
    | cons x r ih => rw [List.map_cons, List.map_cons, List.sum_cons, List.sum_cons, ih, Int.mul_add]
  exact fun n => this _
theorem sumR_const (c : Int) : ∀ n : Nat, sumR n (fun _ => c) = n * c
  | 0 => by simp [sumR]
  | n + 1 => by
    have ih := sumR_const c n
    unfold sumR at ih ⊢
    rw [List.range_succ, List.map_append, List.sum_append, ih]
    simp
    grind
theorem rot1 (F : Nat → Int) (n : Nat) : sumR (n + 1) (fun j => F ((j + 1) % (n + 1))) = sumR (n + 1) F := by
  have h1 : sumR (n + 1) (fun j => F ((j + 1) % (n + 1))) = sumR n (fun j => F (j + 1)) + F 0 := by
    unfold sumR
    rw [List.range_succ, List.map_append, List.sum_append]
    have e : (List.range n).map (fun j => F ((j + 1) % (n + 1))) = (List.range n).map (fun j => F (j + 1)) := List.map_congr_left fun j hj => by
      rw [Nat.mod_eq_of_lt (by have := List.mem_range.mp hj; omega)]
    rw [e]
    simp
  have h2 : sumR (n + 1) F = F 0 + sumR n (fun j => F (j + 1)) := by
    unfold sumR
    rw [List.range_succ_eq_map, List.map_cons, List.sum_cons, List.map_map]
    rfl
  rw [h1, h2, Int.add_comm]
theorem rot {q : Nat} (hq : 0 < q) : ∀ (t : Nat) (F : Nat → Int), sumR q (fun j => F ((j + t) % q)) = sumR q F
  | 0, F => sumR_congr fun j hj => by rw [Nat.add_zero, Nat.mod_eq_of_lt hj]
  | t + 1, F => by
    obtain ⟨n, rfl⟩ : ∃ n, q = n + 1 := ⟨q - 1, by omega⟩
    have e : sumR (n + 1) (fun j => F ((j + (t + 1)) % (n + 1))) = sumR (n + 1) (fun j => (fun y => F ((y + t) % (n + 1))) ((j + 1) % (n + 1))) := sumR_congr fun j _ => by
      show F _ = F _
      rw [Nat.mod_add_mod]
      congr 2
      omega
    rw [e]
    exact (rot1 (fun y => F ((y + t) % (n + 1))) n).trans (rot hq t F)
theorem fm_congr {q x y k : Int} (h : x = y + q * k) : x.fmod q = y.fmod q := by rw [h, Int.add_mul_fmod_self_left]
theorem fm_split (q x : Int) : ∃ k, x = x.fmod q + q * k := ⟨x.fdiv q, by have := Int.fmod_add_mul_fdiv x q; omega⟩
/-- the sum of the signs of all values of a formula -/
def qS (q a b c : Int) : Int := sumR q.toNat fun j => sgn q ((a * j * j + b * j + c).fmod q)
theorem qS_rest {q : Int} (a b c : Int) : qS q (a.fmod q) (b.fmod q) (c.fmod q) = qS q a b c := sumR_congr fun j _ => by
  obtain ⟨k, hk⟩ := fm_split q a
  obtain ⟨l, hl⟩ := fm_split q b
  obtain ⟨m, hm⟩ := fm_split q c
  have : (a * j * j + b * j + c).fmod q = (a.fmod q * j * j + b.fmod q * j + c.fmod q).fmod q := fm_congr (k := k * j * j + l * j + m) (by grind)
  rw [this]
def invM (q : Nat) : Bool := (List.range q).all fun a => a == 0 || (List.range q).any fun i => a * i % q == 1
def disM (q : Nat) : Bool := (List.range q).all fun a => a == 0 || (List.range q).all fun d => d == 0 || !(4 * a * a * d % q == 0)
def monM (q m : Nat) : Bool := (List.range q).all fun d => decide (((List.range q).map fun y => sgnM m ((y * y + d) % q)).sum = if d = 0 then (q : Int) - 1 else -1)
def linM (q m : Nat) : Bool := decide (((List.range q).map fun y => sgnM m y).sum = 0)
theorem more_ok : (masks.all fun p => invM p.1 && (disM p.1 && (monM p.1 p.2 && linM p.1 p.2))) = true := by decide +kernel
theorem facts {q : Int} (hq : q ∈ primes) : ∃ m, (∀ r : Nat, r < q.toNat → sgn q r = sgnM m r) ∧ invM q.toNat = true ∧ disM q.toNat = true ∧ monM q.toNat m = true ∧ linM q.toNat m = true := by
  obtain ⟨m, hm⟩ := prime_mask q hq
  obtain ⟨q1, q2⟩ := prime_pos q hq
  have hh := List.all_eq_true.mp masks_ok _ hm
  have h2 := List.all_eq_true.mp more_ok _ hm
  simp only [Bool.and_eq_true] at hh h2
  refine ⟨m, fun r hr => ?_, h2.1, h2.2.1, h2.2.2.1, h2.2.2.2⟩
  have := of_decide_eq_true (List.all_eq_true.mp hh.1 r (List.mem_range.mpr hr))
  have e : ((q.toNat : Nat) : Int) = q := Int.toNat_of_nonneg (by omega)
  simp only [e] at this
  exact this
theorem inv_ok {q : Int} (hq : q ∈ primes) {a : Int} (h : a.fmod q ≠ 0) : ∃ i k, a * i = 1 + q * k := by
  obtain ⟨m, _, h1, _⟩ := facts hq
  obtain ⟨q1, q2⟩ := prime_pos q hq
  obtain ⟨r, hr, hl⟩ := fmod_nat (n := a) q1
  have h2 := List.all_eq_true.mp h1 r (List.mem_range.mpr hl)
  have r0 : (r == 0) = false := by
    have : r ≠ 0 := fun z => h (by rw [hr, z]; rfl)
    simp [this]
  rw [r0, Bool.false_or] at h2
  obtain ⟨i, _, hi⟩ := List.any_eq_true.mp h2
  have e : r * i % q.toNat = 1 := by simpa using hi
  have e2 := Nat.div_add_mod (r * i) q.toNat
  rw [e] at e2
  obtain ⟨k, hk⟩ := fm_split q a
  have e3 : ((q.toNat : Nat) : Int) = q := Int.toNat_of_nonneg (by omega)
  have e4 : (r : Int) * i = q * ((r * i / q.toNat : Nat) : Int) + 1 := by
    have := congrArg (Nat.cast (R := Int)) e2
    rw [Int.natCast_add, Int.natCast_mul, Int.natCast_mul, e3] at this
    exact this.symm
  refine ⟨i, ((r * i / q.toNat : Nat) : Int) + k * i, ?_⟩
  rw [hr] at hk
  grind
theorem lin_zero {q : Int} (hq : q ∈ primes) {b : Int} (c : Int) (h : b.fmod q ≠ 0) : qS q 0 b c = 0 := by
  obtain ⟨m, ag, _, _, _, h4⟩ := facts hq
  obtain ⟨q1, q2⟩ := prime_pos q hq
  obtain ⟨i, k, hi⟩ := inv_ok hq h
  obtain ⟨t, ht, tl⟩ := fmod_nat (n := c * i) q1
  obtain ⟨k2, hk2⟩ := fm_split q (c * i)
  rw [ht] at hk2
  have e3 : ((q.toNat : Nat) : Int) = q := Int.toNat_of_nonneg (by omega)
  have e : qS q 0 b c = sumR q.toNat fun j => sgn q (b.fmod q) * (fun y : Nat => sgnM m y) ((j + t) % q.toNat) := sumR_congr fun j _ => by
    have w : (0 * (j : Int) * j + b * j + c).fmod q = (b * ((j : Int) + t)).fmod q := fm_congr (k := b * k2 - c * k) (by grind)
    rw [w, sgn_mul hq]
    show _ = sgn q (b.fmod q) * sgnM m ((j + t) % q.toNat)
    rw [← ag _ (Nat.mod_lt _ (by omega))]
    congr 2
    rw [Int.fmod_eq_emod_of_nonneg _ (by omega), Int.natCast_emod, e3, Int.natCast_add]
  rw [e, sumR_mul, rot (by omega)]
  have : sumR q.toNat (fun y => sgnM m y) = 0 := of_decide_eq_true h4
  rw [this, Int.mul_zero]
theorem alg1 {a b i q k t hh k0 : Int} (hi : a * i = 1 + q * k) (h2 : 2 * hh = q + 1) (h : b * i * hh = t + q * k0) : b = 2 * a * t + q * (-b - b * k * (q + 1) + 2 * a * k0) := by
  have e : t = b * i * hh - q * k0 := by omega
  subst e
  have e1 : 2 * a * (b * i * hh - q * k0) = b * (a * i) * (2 * hh) - 2 * a * (q * k0) := by grind
  rw [e1, hi, h2]
  grind
theorem alg2 {a c i q k t d k3 : Int} (hi : a * i = 1 + q * k) (h : c * i - t * t = d + q * k3) : c = a * (t * t + d) + q * (a * k3 - c * k) := by
  have e : t * t + d = c * i - q * k3 := by omega
  rw [e]
  have e1 : a * (c * i - q * k3) = c * (a * i) - a * (q * k3) := by grind
  rw [e1, hi]
  grind
theorem alg3 {a b c q t d K1 K2 j : Int} (hb : b = 2 * a * t + q * K1) (hc : c = a * (t * t + d) + q * K2) : a * j * j + b * j + c = a * ((j + t) * (j + t) + d) + q * (K1 * j + K2) := by
  subst hb hc
  grind
theorem alg4 {a b c q t d K1 K2 r k4 : Int} (hb : b = 2 * a * t + q * K1) (hc : c = a * (t * t + d) + q * K2) (ha : a = r + q * k4) : b * b - 4 * a * c = -(4 * r * r * d) + q * (4 * a * t * K1 + q * K1 * K1 - 4 * a * K2 - 4 * d * k4 * (a + r)) := by
  subst hb hc ha
  grind
theorem quad_val {q : Int} (hq : q ∈ primes) {a : Int} (b c : Int) (h : a.fmod q ≠ 0) : qS q a b c = if (b * b - 4 * a * c).fmod q = 0 then sgn q (a.fmod q) * (q - 1) else -sgn q (a.fmod q) := by
  obtain ⟨m, ag, _, hd, hm, _⟩ := facts hq
  obtain ⟨q1, q2⟩ := prime_pos q hq
  have odd : ∃ hh, 2 * hh = q + 1 := (show ∀ q ∈ primes, ∃ hh, 2 * hh = q + 1 from fun q hq => ⟨(q + 1) / 2, (show ∀ q ∈ primes, 2 * ((q + 1) / 2) = q + 1 by decide) q hq⟩) q hq
  obtain ⟨hh, h2⟩ := odd
  obtain ⟨i, k, hi⟩ := inv_ok hq h
  obtain ⟨t, ht, tl⟩ := fmod_nat (n := b * i * hh) q1
  obtain ⟨k0, hk0⟩ := fm_split q (b * i * hh)
  rw [ht] at hk0
  obtain ⟨d, hd', dl⟩ := fmod_nat (n := c * i - t * t) q1
  obtain ⟨k3, hk3⟩ := fm_split q (c * i - t * t)
  rw [hd'] at hk3
  have e3 : ((q.toNat : Nat) : Int) = q := Int.toNat_of_nonneg (by omega)
  obtain ⟨K1, hb⟩ : ∃ K1, b = 2 * a * t + q * K1 := ⟨-b - b * k * (q + 1) + 2 * a * k0, alg1 hi h2 hk0⟩
  obtain ⟨K2, hc⟩ : ∃ K2, c = a * (t * t + d) + q * K2 := ⟨a * k3 - c * k, alg2 hi hk3⟩
  have e : qS q a b c = sumR q.toNat fun j => sgn q (a.fmod q) * (fun y : Nat => sgnM m ((y * y + d) % q.toNat)) ((j + t) % q.toNat) := sumR_congr fun j _ => by
    have w : (a * (j : Int) * j + b * j + c).fmod q = (a * (((j : Int) + t) * (j + t) + d)).fmod q := fm_congr (k := K1 * j + K2) (alg3 hb hc)
    rw [w, sgn_mul hq]
    show _ = sgn q (a.fmod q) * sgnM m (((j + t) % q.toNat * ((j + t) % q.toNat) + d) % q.toNat)
    rw [← ag _ (Nat.mod_lt _ (by omega))]
    congr 2
    rw [Int.fmod_eq_emod_of_nonneg _ (by omega), Int.natCast_emod, e3, Int.natCast_add, Int.natCast_mul, Int.natCast_emod, Int.natCast_add, e3]
    rw [Int.add_emod, Int.mul_emod, ← Int.add_emod]
  have mv : sumR q.toNat (fun y : Nat => sgnM m ((y * y + d) % q.toNat)) = if d = 0 then ((q.toNat : Nat) : Int) - 1 else -1 := of_decide_eq_true (List.all_eq_true.mp hm d (List.mem_range.mpr dl))
  rw [e, sumR_mul, rot (F := fun y : Nat => sgnM m ((y * y + d) % q.toNat)) (by omega), mv, e3]
  obtain ⟨r, hr, rl⟩ := fmod_nat (n := a) q1
  obtain ⟨k4, hk4⟩ := fm_split q a
  rw [hr] at hk4
  have dis : (b * b - 4 * a * c).fmod q = 0 ↔ d = 0 := by
    have id : b * b - 4 * a * c = -(4 * r * r * d) + q * (4 * a * t * K1 + q * K1 * K1 - 4 * a * K2 - 4 * d * k4 * (a + r)) := alg4 hb hc hk4
    constructor
    · intro z
      have z1 : (-(4 * (r : Int) * r * d)).fmod q = 0 := by rw [← z]; exact (fm_congr id).symm
      rw [Int.fmod_eq_emod_of_nonneg _ (by omega)] at z1
      have z2 : q ∣ -(4 * (r : Int) * r * d) := Int.dvd_of_emod_eq_zero z1
      have z3 : q ∣ (4 * (r : Int) * r * d) := Int.dvd_neg.mp z2
      have z4 : (4 * r * r * d) % q.toNat = 0 := by
        have z5 := Int.emod_eq_zero_of_dvd z3
        have z6 : (((4 * r * r * d) % q.toNat : Nat) : Int) = 0 := by
          rw [Int.natCast_emod, e3]
          simpa using z5
        omega
      have hx := List.all_eq_true.mp hd r (List.mem_range.mpr rl)
      have r0 : (r == 0) = false := by
        have : r ≠ 0 := fun z => h (by rw [hr, z]; rfl)
        simp [this]
      rw [r0, Bool.false_or] at hx
      have hy := List.all_eq_true.mp hx d (List.mem_range.mpr dl)
      rw [z4] at hy
      simpa using hy
    · intro z
      subst z
      rw [fm_congr id]
      simp
  by_cases d0 : d = 0
  · rw [if_pos d0, if_pos (dis.mpr d0)]
  · rw [if_neg d0, if_neg fun z => d0 (dis.mp z), Int.mul_neg, Int.mul_one]
def nonT (q : Int) : List D := (List.range q.toNat).flatMap fun (r : Nat) => match rtO q (r : Int) with | none => [.int r] | some _ => []
def nonM : M PR := pLc (iEnu (aCons (eCall 1 fn__law_roots (aCons (eVar 1) aNil)) aNil)) (tgT 2 (tgCons (tgN 7) (tgCons (tgN 8) tgNil))) (mBl (mOp2 dIs (bVar 8) (ret D.non))) (eVar 7) [7, 8]
theorem nonM_ok : ∀ q ∈ primes, ∀ (x0 x2 x3 x4 x5 x6 : Sl) (st : Sto), nonM [x0, .val (.int q), x2, x3, x4, x5, x6, .un, .un] st = .ok (.new (.lst (nonT q))) [x0, .val (.int q), x2, x3, x4, x5, x6, .un, .un] st :=
  pcase (fun _ _ _ _ _ _ _ => by kernel_rfl) (fun _ _ _ _ _ _ _ => by kernel_rfl) (fun _ _ _ _ _ _ _ => by kernel_rfl) (fun _ _ _ _ _ _ _ => by kernel_rfl) (fun _ _ _ _ _ _ _ => by kernel_rfl) (fun _ _ _ _ _ _ _ => by kernel_rfl) (fun _ _ _ _ _ _ _ => by kernel_rfl) (fun _ _ _ _ _ _ _ => by kernel_rfl) (fun _ _ _ _ _ _ _ => by kernel_rfl) (fun _ _ _ _ _ _ _ => by kernel_rfl) (fun _ _ _ _ _ _ _ => by kernel_rfl) (fun _ _ _ _ _ _ _ => by kernel_rfl) (fun _ _ _ _ _ _ _ => by kernel_rfl) (fun _ _ _ _ _ _ _ => by kernel_rfl) (fun _ _ _ _ _ _ _ => by kernel_rfl) (fun _ _ _ _ _ _ _ => by kernel_rfl) (fun _ _ _ _ _ _ _ => by kernel_rfl)
theorem nonT_len : ∀ q ∈ primes, 0 < (nonT q).length ∧ (nonT q).length < 1000 := by decide +kernel
theorem nonT_int {q : Int} {d : D} (h : d ∈ nonT q) : ∃ u, d = .int u := by
  unfold nonT at h
  obtain ⟨r, _, hr⟩ := List.mem_flatMap.mp h
  cases z : rtO q (r : Int) with
  | none => rw [z] at hr; exact ⟨_, List.mem_singleton.mp hr⟩
  | some k => rw [z] at hr; cases hr
theorem kind_ok {q kind : Int} {st : Sto} (hB : Bag st) (hq : q ∈ primes) : ∃ a b c st', fn__law_rests [.ref 0, .int q, .int kind] st = .ok (.lst [.int a, .int b, .int c]) st' ∧ Bag st' := by
  obtain ⟨q1, q2⟩ := prime_pos q hq
  have q3 : 3 ≤ q := (show ∀ q ∈ primes, 3 ≤ q by decide) q hq
  obtain ⟨x1, s1, e1, g1, g2, hB⟩ := draw_ok (b := q - 1) hB (by omega) (divOk_of (by omega) (by omega))
  obtain ⟨r, s2, e2, r1, r2, hB⟩ := draw_ok (b := q) hB q1 (divOk_of q1 (by omega))
  obtain ⟨x2, s3, e3, h1, h2, hB⟩ := draw_ok (b := q - 1) hB (by omega) (divOk_of (by omega) (by omega))
  obtain ⟨a, ha⟩ : ∃ a, a = 1 + x1 := ⟨_, rfl⟩
  obtain ⟨s, hs⟩ : ∃ s, s = r + 1 + x2 := ⟨_, rfl⟩
  have l3 : (3 : Nat) ≤ lim := lim_le (by decide)
  have dn : ∀ i, dNeg (.int i) = pI (-i) := fun _ => rfl
  have mr : ∀ i, dMul (.int i) (.int r) = pI (i * r) := fun i => d_mul (mulSR (by omega) (by omega))
  have ms : ∀ i, dMul (.int i) (.int s) = pI (i * s) := fun i => d_mul (mulSR (by omega) (by omega))
  have ma : ∀ i, dMul (.int a) (.int i) = pI (a * i) := fun i => d_mul (mulSL (by omega) (by omega))
  have mn : ∀ i, dMul (.int (-a)) (.int i) = pI (-a * i) := fun i => d_mul (mulSL (by omega) (by omega))
  have m2 : ∀ i, dMul (.int (-2)) (.int i) = pI (-2 * i) := fun i => d_mul (mulSL (by decide) (by decide))
  have ei : ini 9 [.ref 0, .int q, .int kind] = [.val (.ref 0), .val (.int q), .val (.int kind), .un, .un, .un, .un, .un, .un] := rfl
  have em : m__law_rests = m__law_rests := rfl
  by_cases k0 : kind = 0
  · subst k0
    refine ⟨a, -2 * a * r, a * r * r, s3, v_fn (e' := [.val (.ref 0), .val (.int q), .val (.int 0), .val (.int a), .val (.int r), .val (.int s), .un, .un, .un]) ?_, hB⟩
    rw [ei]
    unfold m__law_rests
    simp only [v_ok, v_bnd, v_ret, v_eVar, v_bVar, v_fz, v_frz, v_up, v_fro, v_op2, v_op1, v_opN, v_pv2, v_pv1, v_pvN, v_pvf, v_pvn, v_pvt, v_pI, v_pB, v_d1, v_d2, v_od, v_od2, r_int, r_bl, r_non, r_str, r_lst, r_tup, r_fzl, r_rep, r_dic, r_nil, r_cons, v_seq, v_seqn, v_seqr, v_nil, v_sif, v_mif, v_ite, v_sret, v_sretN, v_set, v_setM, v_sl1, v_sl2, v_bl, v_blP, v_tru, v_truM, v_opt, v_chain, v_chP, v_and, v_or, v_not, v_eNot, v_eAnd, v_andD, v_eOr, v_orD, v_aNil, v_aCons, v_lNil, v_lCons, v_par, v_parM, v_setE, v_setN, v_oN, v_oP, v_part, v_slc, v_call, v_callK, v_for, v_seqI, v_it1, v_it2, v_it3, v_rng1, v_rng1M, v_rng2, v_rng2M, v_enu, v_enuM, v_rv, v_rvM, v_zp, v_zp1, v_lc, v_lr1, v_sti, v_app, v_popR, d_sub, d_add, d_neg, d_eq, d_ne, d_lt, d_le, d_gt, d_ge, d_int, d_len, d_lenT, d_isN, d_isNN, t_bl, List.getElem?_cons_zero, List.getElem?_cons_succ, List.set_cons_zero, List.set_cons_succ, List.length_cons, List.length_nil, if_true, if_false, Bool.false_eq_true, v_lst, l3, ca2 e1, ca2 e2, ca2 e3, ← ha, ← hs, decide_true, dn, mr, ma, m2, Nat.zero_add, Nat.reduceAdd]
  by_cases k1 : kind = 1
  · subst k1
    refine ⟨a, -a * (r + s), a * r * s, s3, v_fn (e' := [.val (.ref 0), .val (.int q), .val (.int 1), .val (.int a), .val (.int r), .val (.int s), .un, .un, .un]) ?_, hB⟩
    rw [ei]
    unfold m__law_rests
    simp only [v_ok, v_bnd, v_ret, v_eVar, v_bVar, v_fz, v_frz, v_up, v_fro, v_op2, v_op1, v_opN, v_pv2, v_pv1, v_pvN, v_pvf, v_pvn, v_pvt, v_pI, v_pB, v_d1, v_d2, v_od, v_od2, r_int, r_bl, r_non, r_str, r_lst, r_tup, r_fzl, r_rep, r_dic, r_nil, r_cons, v_seq, v_seqn, v_seqr, v_nil, v_sif, v_mif, v_ite, v_sret, v_sretN, v_set, v_setM, v_sl1, v_sl2, v_bl, v_blP, v_tru, v_truM, v_opt, v_chain, v_chP, v_and, v_or, v_not, v_eNot, v_eAnd, v_andD, v_eOr, v_orD, v_aNil, v_aCons, v_lNil, v_lCons, v_par, v_parM, v_setE, v_setN, v_oN, v_oP, v_part, v_slc, v_call, v_callK, v_for, v_seqI, v_it1, v_it2, v_it3, v_rng1, v_rng1M, v_rng2, v_rng2M, v_enu, v_enuM, v_rv, v_rvM, v_zp, v_zp1, v_lc, v_lr1, v_sti, v_app, v_popR, d_sub, d_add, d_neg, d_eq, d_ne, d_lt, d_le, d_gt, d_ge, d_int, d_len, d_lenT, d_isN, d_isNN, t_bl, List.getElem?_cons_zero, List.getElem?_cons_succ, List.set_cons_zero, List.set_cons_succ, List.length_cons, List.length_nil, if_true, if_false, Bool.false_eq_true, v_lst, l3, ca2 e1, ca2 e2, ca2 e3, ← ha, ← hs, k0, decide_false, decide_true, dn, mr, ma, mn, ms, m2, Nat.zero_add, Nat.reduceAdd]
  by_cases k2 : kind = 2
  · subst k2
    obtain ⟨u', s4, e4, hu, hB⟩ := pick_ok (xs := nonT q) hB (nonT_len q hq).1 (by have := (nonT_len q hq).2; omega)
    obtain ⟨u, rfl⟩ := nonT_int hu
    have nm := fun x0 x2 x3 x4 x5 x6 st => nonM_ok q hq x0 x2 x3 x4 x5 x6 st
    unfold nonM at nm
    refine ⟨a, -2 * a * r, a * (r * r - u), s4, v_fn (e' := [.val (.ref 0), .val (.int q), .val (.int 2), .val (.int a), .val (.int r), .val (.int s), .val (.int u), .un, .un]) ?_, hB⟩
    rw [ei]
    unfold m__law_rests
    simp only [v_ok, v_bnd, v_ret, v_eVar, v_bVar, v_fz, v_frz, v_up, v_fro, v_op2, v_op1, v_opN, v_pv2, v_pv1, v_pvN, v_pvf, v_pvn, v_pvt, v_pI, v_pB, v_d1, v_d2, v_od, v_od2, r_int, r_bl, r_non, r_str, r_lst, r_tup, r_fzl, r_rep, r_dic, r_nil, r_cons, v_seq, v_seqn, v_seqr, v_nil, v_sif, v_mif, v_ite, v_sret, v_sretN, v_set, v_setM, v_sl1, v_sl2, v_bl, v_blP, v_tru, v_truM, v_opt, v_chain, v_chP, v_and, v_or, v_not, v_eNot, v_eAnd, v_andD, v_eOr, v_orD, v_aNil, v_aCons, v_lNil, v_lCons, v_par, v_parM, v_setE, v_setN, v_oN, v_oP, v_part, v_slc, v_call, v_callK, v_for, v_seqI, v_it1, v_it2, v_it3, v_rng1, v_rng1M, v_rng2, v_rng2M, v_enu, v_enuM, v_rv, v_rvM, v_zp, v_zp1, v_lc, v_lr1, v_sti, v_app, v_popR, d_sub, d_add, d_neg, d_eq, d_ne, d_lt, d_le, d_gt, d_ge, d_int, d_len, d_lenT, d_isN, d_isNN, t_bl, List.getElem?_cons_zero, List.getElem?_cons_succ, List.set_cons_zero, List.set_cons_succ, List.length_cons, List.length_nil, if_true, if_false, Bool.false_eq_true, v_lst, l3, ca2 e1, ca2 e2, ca2 e3, ← ha, ← hs, k0, k1, decide_false, decide_true, dn, mr, ma, mn, ms, m2, Nat.zero_add, Nat.reduceAdd]
    simp only [v_ok, v_bnd, v_ret, v_eVar, v_bVar, v_fz, v_frz, v_up, v_fro, v_op2, v_op1, v_opN, v_pv2, v_pv1, v_pvN, v_pvf, v_pvn, v_pvt, v_pI, v_pB, v_d1, v_d2, v_od, v_od2, r_int, r_bl, r_non, r_str, r_lst, r_tup, r_fzl, r_rep, r_dic, r_nil, r_cons, v_seq, v_seqn, v_seqr, v_nil, v_sif, v_mif, v_ite, v_sret, v_sretN, v_set, v_setM, v_sl1, v_sl2, v_bl, v_blP, v_tru, v_truM, v_opt, v_chain, v_chP, v_and, v_or, v_not, v_eNot, v_eAnd, v_andD, v_eOr, v_orD, v_aNil, v_aCons, v_lNil, v_lCons, v_par, v_parM, v_setE, v_setN, v_oN, v_oP, v_part, v_slc, v_call, v_callK, v_for, v_seqI, v_it1, v_it2, v_it3, v_rng1, v_rng1M, v_rng2, v_rng2M, v_enu, v_enuM, v_rv, v_rvM, v_zp, v_zp1, v_lc, v_lr1, v_sti, v_app, v_popR, d_sub, d_add, d_neg, d_eq, d_ne, d_lt, d_le, d_gt, d_ge, d_int, d_len, d_lenT, d_isN, d_isNN, t_bl, List.getElem?_cons_zero, List.getElem?_cons_succ, List.set_cons_zero, List.set_cons_succ, List.length_cons, List.length_nil, if_true, if_false, Bool.false_eq_true] at nm
    simp only [v_ok, v_bnd, v_ret, v_eVar, v_bVar, v_fz, v_frz, v_up, v_fro, v_op2, v_op1, v_opN, v_pv2, v_pv1, v_pvN, v_pvf, v_pvn, v_pvt, v_pI, v_pB, v_d1, v_d2, v_od, v_od2, r_int, r_bl, r_non, r_str, r_lst, r_tup, r_fzl, r_rep, r_dic, r_nil, r_cons, v_seq, v_seqn, v_seqr, v_nil, v_sif, v_mif, v_ite, v_sret, v_sretN, v_set, v_setM, v_sl1, v_sl2, v_bl, v_blP, v_tru, v_truM, v_opt, v_chain, v_chP, v_and, v_or, v_not, v_eNot, v_eAnd, v_andD, v_eOr, v_orD, v_aNil, v_aCons, v_lNil, v_lCons, v_par, v_parM, v_setE, v_setN, v_oN, v_oP, v_part, v_slc, v_call, v_callK, v_for, v_seqI, v_it1, v_it2, v_it3, v_rng1, v_rng1M, v_rng2, v_rng2M, v_enu, v_enuM, v_rv, v_rvM, v_zp, v_zp1, v_lc, v_lr1, v_sti, v_app, v_popR, d_sub, d_add, d_neg, d_eq, d_ne, d_lt, d_le, d_gt, d_ge, d_int, d_len, d_lenT, d_isN, d_isNN, t_bl, List.getElem?_cons_zero, List.getElem?_cons_succ, List.set_cons_zero, List.set_cons_succ, List.length_cons, List.length_nil, if_true, if_false, Bool.false_eq_true, nm, ca2 e4, v_lst, l3, dn, mr, ma, m2, Nat.zero_add, Nat.reduceAdd]
  by_cases k3 : kind = 3
  · subst k3
    refine ⟨0, a, r, s3, v_fn (e' := [.val (.ref 0), .val (.int q), .val (.int 3), .val (.int a), .val (.int r), .val (.int s), .un, .un, .un]) ?_, hB⟩
    rw [ei]
    unfold m__law_rests
    simp only [v_ok, v_bnd, v_ret, v_eVar, v_bVar, v_fz, v_frz, v_up, v_fro, v_op2, v_op1, v_opN, v_pv2, v_pv1, v_pvN, v_pvf, v_pvn, v_pvt, v_pI, v_pB, v_d1, v_d2, v_od, v_od2, r_int, r_bl, r_non, r_str, r_lst, r_tup, r_fzl, r_rep, r_dic, r_nil, r_cons, v_seq, v_seqn, v_seqr, v_nil, v_sif, v_mif, v_ite, v_sret, v_sretN, v_set, v_setM, v_sl1, v_sl2, v_bl, v_blP, v_tru, v_truM, v_opt, v_chain, v_chP, v_and, v_or, v_not, v_eNot, v_eAnd, v_andD, v_eOr, v_orD, v_aNil, v_aCons, v_lNil, v_lCons, v_par, v_parM, v_setE, v_setN, v_oN, v_oP, v_part, v_slc, v_call, v_callK, v_for, v_seqI, v_it1, v_it2, v_it3, v_rng1, v_rng1M, v_rng2, v_rng2M, v_enu, v_enuM, v_rv, v_rvM, v_zp, v_zp1, v_lc, v_lr1, v_sti, v_app, v_popR, d_sub, d_add, d_neg, d_eq, d_ne, d_lt, d_le, d_gt, d_ge, d_int, d_len, d_lenT, d_isN, d_isNN, t_bl, List.getElem?_cons_zero, List.getElem?_cons_succ, List.set_cons_zero, List.set_cons_succ, List.length_cons, List.length_nil, if_true, if_false, Bool.false_eq_true, v_lst, l3, ca2 e1, ca2 e2, ca2 e3, ← ha, ← hs, k0, k1, k2, decide_false, decide_true, Nat.zero_add, Nat.reduceAdd]
  by_cases k4 : kind = 4
  · subst k4
    refine ⟨0, 0, a, s3, v_fn (e' := [.val (.ref 0), .val (.int q), .val (.int 4), .val (.int a), .val (.int r), .val (.int s), .un, .un, .un]) ?_, hB⟩
    rw [ei]
    unfold m__law_rests
    simp only [v_ok, v_bnd, v_ret, v_eVar, v_bVar, v_fz, v_frz, v_up, v_fro, v_op2, v_op1, v_opN, v_pv2, v_pv1, v_pvN, v_pvf, v_pvn, v_pvt, v_pI, v_pB, v_d1, v_d2, v_od, v_od2, r_int, r_bl, r_non, r_str, r_lst, r_tup, r_fzl, r_rep, r_dic, r_nil, r_cons, v_seq, v_seqn, v_seqr, v_nil, v_sif, v_mif, v_ite, v_sret, v_sretN, v_set, v_setM, v_sl1, v_sl2, v_bl, v_blP, v_tru, v_truM, v_opt, v_chain, v_chP, v_and, v_or, v_not, v_eNot, v_eAnd, v_andD, v_eOr, v_orD, v_aNil, v_aCons, v_lNil, v_lCons, v_par, v_parM, v_setE, v_setN, v_oN, v_oP, v_part, v_slc, v_call, v_callK, v_for, v_seqI, v_it1, v_it2, v_it3, v_rng1, v_rng1M, v_rng2, v_rng2M, v_enu, v_enuM, v_rv, v_rvM, v_zp, v_zp1, v_lc, v_lr1, v_sti, v_app, v_popR, d_sub, d_add, d_neg, d_eq, d_ne, d_lt, d_le, d_gt, d_ge, d_int, d_len, d_lenT, d_isN, d_isNN, t_bl, List.getElem?_cons_zero, List.getElem?_cons_succ, List.set_cons_zero, List.set_cons_succ, List.length_cons, List.length_nil, if_true, if_false, Bool.false_eq_true, v_lst, l3, ca2 e1, ca2 e2, ca2 e3, ← ha, ← hs, k0, k1, k2, k3, decide_false, decide_true, Nat.zero_add, Nat.reduceAdd]
  by_cases k5 : kind = 5
  · subst k5
    refine ⟨0, 0, 0, s3, v_fn (e' := [.val (.ref 0), .val (.int q), .val (.int 5), .val (.int a), .val (.int r), .val (.int s), .un, .un, .un]) ?_, hB⟩
    rw [ei]
    unfold m__law_rests
    simp only [v_ok, v_bnd, v_ret, v_eVar, v_bVar, v_fz, v_frz, v_up, v_fro, v_op2, v_op1, v_opN, v_pv2, v_pv1, v_pvN, v_pvf, v_pvn, v_pvt, v_pI, v_pB, v_d1, v_d2, v_od, v_od2, r_int, r_bl, r_non, r_str, r_lst, r_tup, r_fzl, r_rep, r_dic, r_nil, r_cons, v_seq, v_seqn, v_seqr, v_nil, v_sif, v_mif, v_ite, v_sret, v_sretN, v_set, v_setM, v_sl1, v_sl2, v_bl, v_blP, v_tru, v_truM, v_opt, v_chain, v_chP, v_and, v_or, v_not, v_eNot, v_eAnd, v_andD, v_eOr, v_orD, v_aNil, v_aCons, v_lNil, v_lCons, v_par, v_parM, v_setE, v_setN, v_oN, v_oP, v_part, v_slc, v_call, v_callK, v_for, v_seqI, v_it1, v_it2, v_it3, v_rng1, v_rng1M, v_rng2, v_rng2M, v_enu, v_enuM, v_rv, v_rvM, v_zp, v_zp1, v_lc, v_lr1, v_sti, v_app, v_popR, d_sub, d_add, d_neg, d_eq, d_ne, d_lt, d_le, d_gt, d_ge, d_int, d_len, d_lenT, d_isN, d_isNN, t_bl, List.getElem?_cons_zero, List.getElem?_cons_succ, List.set_cons_zero, List.set_cons_succ, List.length_cons, List.length_nil, if_true, if_false, Bool.false_eq_true, v_lst, l3, ca2 e1, ca2 e2, ca2 e3, ← ha, ← hs, k0, k1, k2, k3, k4, decide_false, decide_true, Nat.zero_add, Nat.reduceAdd]
  by_cases k6 : kind = 6
  · subst k6
    refine ⟨a, 0, r, s3, v_fn (e' := [.val (.ref 0), .val (.int q), .val (.int 6), .val (.int a), .val (.int r), .val (.int s), .un, .un, .un]) ?_, hB⟩
    rw [ei]
    unfold m__law_rests
    simp only [v_ok, v_bnd, v_ret, v_eVar, v_bVar, v_fz, v_frz, v_up, v_fro, v_op2, v_op1, v_opN, v_pv2, v_pv1, v_pvN, v_pvf, v_pvn, v_pvt, v_pI, v_pB, v_d1, v_d2, v_od, v_od2, r_int, r_bl, r_non, r_str, r_lst, r_tup, r_fzl, r_rep, r_dic, r_nil, r_cons, v_seq, v_seqn, v_seqr, v_nil, v_sif, v_mif, v_ite, v_sret, v_sretN, v_set, v_setM, v_sl1, v_sl2, v_bl, v_blP, v_tru, v_truM, v_opt, v_chain, v_chP, v_and, v_or, v_not, v_eNot, v_eAnd, v_andD, v_eOr, v_orD, v_aNil, v_aCons, v_lNil, v_lCons, v_par, v_parM, v_setE, v_setN, v_oN, v_oP, v_part, v_slc, v_call, v_callK, v_for, v_seqI, v_it1, v_it2, v_it3, v_rng1, v_rng1M, v_rng2, v_rng2M, v_enu, v_enuM, v_rv, v_rvM, v_zp, v_zp1, v_lc, v_lr1, v_sti, v_app, v_popR, d_sub, d_add, d_neg, d_eq, d_ne, d_lt, d_le, d_gt, d_ge, d_int, d_len, d_lenT, d_isN, d_isNN, t_bl, List.getElem?_cons_zero, List.getElem?_cons_succ, List.set_cons_zero, List.set_cons_succ, List.length_cons, List.length_nil, if_true, if_false, Bool.false_eq_true, v_lst, l3, ca2 e1, ca2 e2, ca2 e3, ← ha, ← hs, k0, k1, k2, k3, k4, k5, decide_false, decide_true, Nat.zero_add, Nat.reduceAdd]
  · obtain ⟨y1, s4, f1, _, _, hB⟩ := draw_ok (b := q) hB q1 (divOk_of q1 (by omega))
    obtain ⟨y2, s5, f2, _, _, hB⟩ := draw_ok (b := q) hB q1 (divOk_of q1 (by omega))
    obtain ⟨y3, s6, f3, _, _, hB⟩ := draw_ok (b := q) hB q1 (divOk_of q1 (by omega))
    refine ⟨y1, y2, y3, s6, v_fn (e' := [.val (.ref 0), .val (.int q), .val (.int kind), .val (.int a), .val (.int r), .val (.int s), .un, .un, .un]) ?_, hB⟩
    rw [ei]
    unfold m__law_rests
    simp only [v_ok, v_bnd, v_ret, v_eVar, v_bVar, v_fz, v_frz, v_up, v_fro, v_op2, v_op1, v_opN, v_pv2, v_pv1, v_pvN, v_pvf, v_pvn, v_pvt, v_pI, v_pB, v_d1, v_d2, v_od, v_od2, r_int, r_bl, r_non, r_str, r_lst, r_tup, r_fzl, r_rep, r_dic, r_nil, r_cons, v_seq, v_seqn, v_seqr, v_nil, v_sif, v_mif, v_ite, v_sret, v_sretN, v_set, v_setM, v_sl1, v_sl2, v_bl, v_blP, v_tru, v_truM, v_opt, v_chain, v_chP, v_and, v_or, v_not, v_eNot, v_eAnd, v_andD, v_eOr, v_orD, v_aNil, v_aCons, v_lNil, v_lCons, v_par, v_parM, v_setE, v_setN, v_oN, v_oP, v_part, v_slc, v_call, v_callK, v_for, v_seqI, v_it1, v_it2, v_it3, v_rng1, v_rng1M, v_rng2, v_rng2M, v_enu, v_enuM, v_rv, v_rvM, v_zp, v_zp1, v_lc, v_lr1, v_sti, v_app, v_popR, d_sub, d_add, d_neg, d_eq, d_ne, d_lt, d_le, d_gt, d_ge, d_int, d_len, d_lenT, d_isN, d_isNN, t_bl, List.getElem?_cons_zero, List.getElem?_cons_succ, List.set_cons_zero, List.set_cons_succ, List.length_cons, List.length_nil, if_true, if_false, Bool.false_eq_true, v_lst, l3, ca2 e1, ca2 e2, ca2 e3, ca2 f1, ca2 f2, ca2 f3, ← ha, ← hs, k0, k1, k2, k3, k4, k5, k6, decide_false, Nat.zero_add, Nat.reduceAdd]
theorem formula_ok {q kind : Int} {st : Sto} (hB : Bag st) (hq : q ∈ primes) : ∃ a b c st', fn__law_formula [.ref 0, .int q, .int kind] st = .ok (.lst [.int a, .int b, .int c]) st' ∧ Bag st' := by
  obtain ⟨q1, q2⟩ := prime_pos q hq
  have q0 : q ≠ 0 := by omega
  have l3 : (3 : Nat) ≤ lim := lim_le (by decide)
  have ei : ini 4 [.ref 0, .int q, .int kind] = [.val (.ref 0), .val (.int q), .val (.int kind), .un] := rfl
  by_cases k8 : kind = 8
  · obtain ⟨y1, s1, f1, _, _, hB⟩ := great_ok hB
    obtain ⟨y2, s2, f2, _, _, hB⟩ := great_ok hB
    obtain ⟨y3, s3, f3, _, _, hB⟩ := great_ok hB
    refine ⟨y1, y2, y3, s3, v_fn (e' := [.val (.ref 0), .val (.int q), .val (.int kind), .un]) ?_, hB⟩
    rw [ei]
    unfold m__law_formula
    simp only [v_ok, v_bnd, v_ret, v_eVar, v_bVar, v_fz, v_frz, v_up, v_fro, v_op2, v_op1, v_opN, v_pv2, v_pv1, v_pvN, v_pvf, v_pvn, v_pvt, v_pI, v_pB, v_d1, v_d2, v_od, v_od2, r_int, r_bl, r_non, r_str, r_lst, r_tup, r_fzl, r_rep, r_dic, r_nil, r_cons, v_seq, v_seqn, v_seqr, v_nil, v_sif, v_mif, v_ite, v_sret, v_sretN, v_set, v_setM, v_sl1, v_sl2, v_bl, v_blP, v_tru, v_truM, v_opt, v_chain, v_chP, v_and, v_or, v_not, v_eNot, v_eAnd, v_andD, v_eOr, v_orD, v_aNil, v_aCons, v_lNil, v_lCons, v_par, v_parM, v_setE, v_setN, v_oN, v_oP, v_part, v_slc, v_call, v_callK, v_for, v_seqI, v_it1, v_it2, v_it3, v_rng1, v_rng1M, v_rng2, v_rng2M, v_enu, v_enuM, v_rv, v_rvM, v_zp, v_zp1, v_lc, v_lr1, v_sti, v_app, v_popR, d_sub, d_add, d_neg, d_eq, d_ne, d_lt, d_le, d_gt, d_ge, d_int, d_len, d_lenT, d_isN, d_isNN, t_bl, List.getElem?_cons_zero, List.getElem?_cons_succ, List.set_cons_zero, List.set_cons_succ, List.length_cons, List.length_nil, if_true, if_false, Bool.false_eq_true, v_lst, l3, ca1 f1, ca1 f2, ca1 f3, k8, decide_true, Nat.zero_add, Nat.reduceAdd]
  · obtain ⟨a, b, c, s1, f1, hB⟩ := kind_ok (kind := kind) hB hq
    obtain ⟨ys, s2, hc, hB, al⟩ := lcS (e0 := [.val (.ref 0), .val (.int q), .val (.int kind), .un]) (i := 3) (sl := .un) (J := Bag) (R := fun _ y => ∃ k, y = D.int k) (ds := [.int a, .int b, .int c]) (elt := (eCall 3 fn__law_with_rest (aCons (eVar 0) (aCons (eVar 1) (aCons (fz (mOp2 dMod (fz (mOpN dInt (aCons (bVar 3) aNil))) (bVar 1))) aNil))))) rfl hB fun x hx s hB => by
      obtain ⟨k, rfl⟩ : ∃ k, x = D.int k := by
        simp only [List.mem_cons, List.not_mem_nil, or_false] at hx
        rcases hx with h | h | h <;> exact ⟨_, h⟩
      obtain ⟨n, s', e', _, hB'⟩ := with_ok (q := q) (rest := k.fmod q) hB q1 (by omega)
      refine ⟨.int n, s', ?_, hB', n, rfl⟩
      simp only [v_ok, v_bnd, v_ret, v_eVar, v_bVar, v_fz, v_frz, v_up, v_fro, v_op2, v_op1, v_opN, v_pv2, v_pv1, v_pvN, v_pvf, v_pvn, v_pvt, v_pI, v_pB, v_d1, v_d2, v_od, v_od2, r_int, r_bl, r_non, r_str, r_lst, r_tup, r_fzl, r_rep, r_dic, r_nil, r_cons, v_seq, v_seqn, v_seqr, v_nil, v_sif, v_mif, v_ite, v_sret, v_sretN, v_set, v_setM, v_sl1, v_sl2, v_bl, v_blP, v_tru, v_truM, v_opt, v_chain, v_chP, v_and, v_or, v_not, v_eNot, v_eAnd, v_andD, v_eOr, v_orD, v_aNil, v_aCons, v_lNil, v_lCons, v_par, v_parM, v_setE, v_setN, v_oN, v_oP, v_part, v_slc, v_call, v_callK, v_for, v_seqI, v_it1, v_it2, v_it3, v_rng1, v_rng1M, v_rng2, v_rng2M, v_enu, v_enuM, v_rv, v_rvM, v_zp, v_zp1, v_lc, v_lr1, v_sti, v_app, v_popR, d_sub, d_add, d_neg, d_eq, d_ne, d_lt, d_le, d_gt, d_ge, d_int, d_len, d_lenT, d_isN, d_isNN, t_bl, List.getElem?_cons_zero, List.getElem?_cons_succ, List.set_cons_zero, List.set_cons_succ, List.length_cons, List.length_nil, if_true, if_false, Bool.false_eq_true, d_mod q0, ca3 e']
    cases al with
    | cons r1 al =>
      cases al with
      | cons r2 al =>
        cases al with
        | cons r3 al =>
          cases al
          obtain ⟨y1, rfl⟩ := r1
          obtain ⟨y2, rfl⟩ := r2
          obtain ⟨y3, rfl⟩ := r3
          have hc2 := v_lcP (ds := [.int a, .int b, .int c]) (vs := [3]) rfl (lim_le (show 3 ≤ 1000000 by decide)) hc
          refine ⟨y1, y2, y3, s2, v_fn (e' := [.val (.ref 0), .val (.int q), .val (.int kind), .un]) ?_, hB⟩
          rw [ei]
          unfold m__law_formula
          simp only [v_ok, v_bnd, v_ret, v_eVar, v_bVar, v_fz, v_frz, v_up, v_fro, v_op2, v_op1, v_opN, v_pv2, v_pv1, v_pvN, v_pvf, v_pvn, v_pvt, v_pI, v_pB, v_d1, v_d2, v_od, v_od2, r_int, r_bl, r_non, r_str, r_lst, r_tup, r_fzl, r_rep, r_dic, r_nil, r_cons, v_seq, v_seqn, v_seqr, v_nil, v_sif, v_mif, v_ite, v_sret, v_sretN, v_set, v_setM, v_sl1, v_sl2, v_bl, v_blP, v_tru, v_truM, v_opt, v_chain, v_chP, v_and, v_or, v_not, v_eNot, v_eAnd, v_andD, v_eOr, v_orD, v_aNil, v_aCons, v_lNil, v_lCons, v_par, v_parM, v_setE, v_setN, v_oN, v_oP, v_part, v_slc, v_call, v_callK, v_for, v_seqI, v_it1, v_it2, v_it3, v_rng1, v_rng1M, v_rng2, v_rng2M, v_enu, v_enuM, v_rv, v_rvM, v_zp, v_zp1, v_lc, v_lr1, v_sti, v_app, v_popR, d_sub, d_add, d_neg, d_eq, d_ne, d_lt, d_le, d_gt, d_ge, d_int, d_len, d_lenT, d_isN, d_isNN, t_bl, List.getElem?_cons_zero, List.getElem?_cons_succ, List.set_cons_zero, List.set_cons_succ, List.length_cons, List.length_nil, if_true, if_false, Bool.false_eq_true, k8, decide_false, ca3 f1, hc2]
theorem v_asg {m : M D} {f : TgF} {e : En} {s : Sto} : sAsg m f e s = (m e s).thn (tgM f) := rfl
theorem tg3 {i j k : Nat} {x y z : D} {e : En} {s : Sto} : tgM (tgT 3 (tgCons (tgN i) (tgCons (tgN j) (tgCons (tgN k) tgNil)))) (.lst [x, y, z]) e s = .ok .nx (((e.set i (.val x)).set j (.val y)).set k (.val z)) s := rfl
def vals (q a b c : Int) : List Int := (List.range q.toNat).map fun (j : Nat) => (a * j * j + b * j + c).fmod q
theorem sig_ix {q : Int} (hq : q ∈ primes) (y : Int) : dIx (.lst ((signsT q).map D.int)) (.int (y.fmod q)) = some (.fro (.int (sgn q (y.fmod q)))) := by
  obtain ⟨q1, q2⟩ := prime_pos q hq
  obtain ⟨r, hr, hl⟩ := fmod_nat (n := y) q1
  rw [hr]
  show (L2.atI ((signsT q).map D.int) (r : Int)).map PV.fro = _
  unfold signsT
  rw [List.map_map, at_map _ hl]
  rfl
theorem rests_ok {q : Int} (hq : q ∈ primes) (a b c : Int) (st : Sto) : fn_formula_rests [.int q, .int a, .int b, .int c] st = .ok (.lst ((vals q a b c).map D.int)) st := by
  obtain ⟨q1, q2⟩ := prime_pos q hq
  have q0 : q ≠ 0 := by omega
  have ei : ini 5 [.int q, .int a, .int b, .int c] = [.val (.int q), .val (.int a), .val (.int b), .val (.int c), .un] := rfl
  have hc := lc1 (e0 := [.val (.int q), .val (.int a), .val (.int b), .val (.int c), .un]) (i := 4) (sl := .un) (s := st) (f := fun x => match x with | .int k => .int ((a * k * k + b * k + c).fmod q) | d => d) (ds := rangeD 0 q.toNat) (elt := (fz (mOp2 dMod (fz (mOp2 dAdd (fz (mOp2 dAdd (fz (mOp2 dMul (fz (mOp2 dMul (bVar 1) (bVar 4))) (bVar 4))) (fz (mOp2 dMul (bVar 2) (bVar 4))))) (bVar 3))) (bVar 0)))) rfl fun x hx => by
    obtain ⟨k, rfl, k1, k2⟩ := mem_rangeD hx
    have mk : ∀ i, dMul (.int i) (.int k) = pI (i * k) := fun i => d_mul (mulSR (by omega) (by omega))
    simp only [v_ok, v_bnd, v_ret, v_eVar, v_bVar, v_fz, v_frz, v_up, v_fro, v_op2, v_op1, v_opN, v_pv2, v_pv1, v_pvN, v_pvf, v_pvn, v_pvt, v_pI, v_pB, v_d1, v_d2, v_od, v_od2, r_int, r_bl, r_non, r_str, r_lst, r_tup, r_fzl, r_rep, r_dic, r_nil, r_cons, v_seq, v_seqn, v_seqr, v_nil, v_sif, v_mif, v_ite, v_sret, v_sretN, v_set, v_setM, v_sl1, v_sl2, v_bl, v_blP, v_tru, v_truM, v_opt, v_chain, v_chP, v_and, v_or, v_not, v_eNot, v_eAnd, v_andD, v_eOr, v_orD, v_aNil, v_aCons, v_lNil, v_lCons, v_par, v_parM, v_setE, v_setN, v_oN, v_oP, v_part, v_slc, v_call, v_callK, v_for, v_seqI, v_it1, v_it2, v_it3, v_rng1, v_rng1M, v_rng2, v_rng2M, v_enu, v_enuM, v_rv, v_rvM, v_zp, v_zp1, v_lc, v_lr1, v_sti, v_app, v_popR, d_sub, d_add, d_neg, d_eq, d_ne, d_lt, d_le, d_gt, d_ge, d_int, d_len, d_lenT, d_isN, d_isNN, t_bl, List.getElem?_cons_zero, List.getElem?_cons_succ, List.set_cons_zero, List.set_cons_succ, List.length_cons, List.length_nil, if_true, if_false, Bool.false_eq_true, mk, d_mod q0]
  have el : (rangeD 0 q.toNat).map (fun x => match x with | .int k => D.int ((a * k * k + b * k + c).fmod q) | d => d) = (vals q a b c).map D.int := by
    unfold rangeD vals
    rw [List.map_map, List.map_map]
    apply List.map_congr_left
    intro j _
    show D.int _ = D.int _
    rw [Int.zero_add]
  rw [el] at hc
  have hc2 := v_lcP (ds := rangeD 0 q.toNat) (vs := [4]) rfl (by rw [rangeD_len]; exact lim_le (by omega)) hc
  refine v_fn (e' := [.val (.int q), .val (.int a), .val (.int b), .val (.int c), .un]) ?_
  rw [ei]
  unfold m_formula_rests
  simp only [v_ok, v_bnd, v_ret, v_eVar, v_bVar, v_fz, v_frz, v_up, v_fro, v_op2, v_op1, v_opN, v_pv2, v_pv1, v_pvN, v_pvf, v_pvn, v_pvt, v_pI, v_pB, v_d1, v_d2, v_od, v_od2, r_int, r_bl, r_non, r_str, r_lst, r_tup, r_fzl, r_rep, r_dic, r_nil, r_cons, v_seq, v_seqn, v_seqr, v_nil, v_sif, v_mif, v_ite, v_sret, v_sretN, v_set, v_setM, v_sl1, v_sl2, v_bl, v_blP, v_tru, v_truM, v_opt, v_chain, v_chP, v_and, v_or, v_not, v_eNot, v_eAnd, v_andD, v_eOr, v_orD, v_aNil, v_aCons, v_lNil, v_lCons, v_par, v_parM, v_setE, v_setN, v_oN, v_oP, v_part, v_slc, v_call, v_callK, v_for, v_seqI, v_it1, v_it2, v_it3, v_rng1, v_rng1M, v_rng2, v_rng2M, v_enu, v_enuM, v_rv, v_rvM, v_zp, v_zp1, v_lc, v_lr1, v_sti, v_app, v_popR, d_sub, d_add, d_neg, d_eq, d_ne, d_lt, d_le, d_gt, d_ge, d_int, d_len, d_lenT, d_isN, d_isNN, t_bl, List.getElem?_cons_zero, List.getElem?_cons_succ, List.set_cons_zero, List.set_cons_succ, List.length_cons, List.length_nil, if_true, if_false, Bool.false_eq_true, rngB_of (show (-1000000000 : Int) ≤ q by omega) (by omega), hc2]
theorem small_fmod {q : Int} {r : Int} (h1 : 0 ≤ r) (h2 : r < q) : r.fmod q = r := by
  rw [Int.fmod_eq_emod_of_nonneg _ (by omega)]
  exact Int.emod_eq_of_lt h1 h2
theorem fmod_rng {q : Int} (h : 0 < q) (y : Int) : 0 ≤ y.fmod q ∧ y.fmod q < q := by
  rw [Int.fmod_eq_emod_of_nonneg _ (by omega)]
  exact ⟨Int.emod_nonneg _ (by omega), Int.emod_lt_of_pos _ h⟩
theorem sumR_bound {F : Nat → Int} (h : ∀ j, F j = 0 ∨ F j = 1 ∨ F j = -1) : ∀ n : Nat, -(n : Int) ≤ sumR n F ∧ sumR n F ≤ n
  | 0 => by simp [sumR]
  | n + 1 => by
    have ih := sumR_bound h n
    have e : sumR (n + 1) F = sumR n F + F n := by
      unfold sumR
      rw [List.range_succ, List.map_append, List.sum_append]
      simp
    rw [e]
    rcases h n with z | z | z <;> omega
end R83
namespace R83
open PySem PD
theorem v_asg2 {i j : Nat} {x y : D} {e : En} {s : Sto} : tgM (tgT 2 (tgCons (tgN i) (tgCons (tgN j) tgNil))) (.lst [x, y]) e s = .ok .nx ((e.set i (.val x)).set j (.val y)) s := rfl
theorem v_cnt {a b : M D} {e : En} {s : Sto} : mCnt a b e s = (a e s).thn fun x => bnd (chkL x) fun _ => bnd b (pv2 cntP x) := rfl
theorem v_chk {xs : List D} {e : En} {s : Sto} : chkL (.lst xs) e s = .ok () e s := rfl
theorem ints_some : ∀ l : List Int, intsD (l.map D.int) = some l
  | [] => rfl
  | x :: r => by
    show (intsD (r.map D.int)).map (x :: ·) = _
    rw [ints_some r]
    rfl
theorem d_cnt (l : List Int) (k : Int) : cntP (.lst (l.map D.int)) (.int k) = some (.fro (.int ((l.count k : Nat) : Int))) := by
  show (intsD (l.map D.int)).map _ = _
  rw [ints_some]
  rfl
/-! facts of finite kind -/
def sqsN (q : Nat) : List Nat := (List.range q).map fun j => j * j % q
def cntM (q m : Nat) : Bool := (List.range q).all fun v => decide ((((sqsN q).count v : Nat) : Int) = 1 + sgnM m v)
def ownM (q m : Nat) : Bool := (List.range q).all fun r => decide (((List.range q).map fun k => (1 + sgnM m k) * (1 + sgnM m ((r + q - k) % q))).sum = if r = 0 then (q : Int) + (q - 1) * sgnM m (q - 1) else q - sgnM m (q - 1))
def zM (m v : Nat) : Int := 1 - sgnM m v * sgnM m v
def zroM (q m : Nat) : Bool := (List.range q).all fun d => decide (((List.range q).map fun y => zM m ((y * y + d) % q)).sum = 1 + sgnM m ((q - d) % q))
def onceM (q m : Nat) : Bool := decide (((List.range q).map fun y => zM m y).sum = 1)
def twoM (q m : Nat) : Bool := decide (sgnM m (2 % q) * sgnM m (2 % q) = 1) && !decide (sgnM m (q - 1) = 0)
def zerM (q m : Nat) : Bool := (List.range q).all fun v => decide ((sgnM m v * sgnM m v = 1) = (v ≠ 0))
theorem last_ok : (masks.all fun p => cntM p.1 p.2 && (ownM p.1 p.2 && (zroM p.1 p.2 && (onceM p.1 p.2 && twoM p.1 p.2)))) = true := by decide +kernel
theorem facts3 {q : Int} (hq : q ∈ primes) : ∃ m, (∀ r : Nat, r < q.toNat → sgn q r = sgnM m r) ∧ cntM q.toNat m = true ∧ ownM q.toNat m = true ∧ zroM q.toNat m = true ∧ onceM q.toNat m = true ∧ twoM q.toNat m = true := by
  obtain ⟨m, hm⟩ := prime_mask q hq
  obtain ⟨q1, q2⟩ := prime_pos q hq
  have hh := List.all_eq_true.mp masks_ok _ hm
  have h2 := List.all_eq_true.mp last_ok _ hm
  simp only [Bool.and_eq_true] at hh h2
  refine ⟨m, fun r hr => ?_, h2.1, h2.2.1, h2.2.2.1, h2.2.2.2.1, h2.2.2.2.2⟩
  have := of_decide_eq_true (List.all_eq_true.mp hh.1 r (List.mem_range.mpr hr))
  have e : ((q.toNat : Nat) : Int) = q := Int.toNat_of_nonneg (by omega)
  simp only [e] at this
  exact this
def sqs (q : Int) : List Int := (List.range q.toNat).map fun (j : Nat) => ((j : Int) * j).fmod q
theorem fmod_cast {q : Int} (h : 0 < q) (x : Nat) : (x : Int).fmod q = ((x % q.toNat : Nat) : Int) := by
  have e3 : ((q.toNat : Nat) : Int) = q := Int.toNat_of_nonneg (by omega)
  rw [Int.fmod_eq_emod_of_nonneg _ (by omega), Int.natCast_emod, e3]
theorem sqs_cast {q : Int} (h : 0 < q) : sqs q = (sqsN q.toNat).map fun (v : Nat) => (v : Int) := by
  unfold sqs sqsN
  rw [List.map_map]
  apply List.map_congr_left
  intro j _
  show ((j : Int) * j).fmod q = ((j * j % q.toNat : Nat) : Int)
  rw [← Int.natCast_mul, fmod_cast h]
theorem count_cast (l : List Nat) (v : Nat) : (l.map fun (v : Nat) => (v : Int)).count (v : Int) = l.count v := by
  induction l with
  | nil => rfl
  | cons x r ih =>
    rw [List.map_cons, List.count_cons, List.count_cons, ih]
    have : ((x : Int) == (v : Int)) = (x == v) := by
      rw [Bool.eq_iff_iff]
      simp
      omega
    rw [this]
theorem cnt_val {q : Int} (hq : q ∈ primes) (y : Int) : (((sqs q).count (y.fmod q) : Nat) : Int) = 1 + sgn q (y.fmod q) := by
  obtain ⟨q1, q2⟩ := prime_pos q hq
  obtain ⟨m, ag, h, _⟩ := facts3 hq
  obtain ⟨v, hv, hl⟩ := fmod_nat (n := y) q1
  rw [hv, sqs_cast q1, count_cast, ag v hl]
  exact of_decide_eq_true (List.all_eq_true.mp h v (List.mem_range.mpr hl))
theorem sumR_add (F G : Nat → Int) (n : Nat) : sumR n (fun j => F j + G j) = sumR n F + sumR n G := by
  unfold sumR
  induction (List.range n) with
  | nil => rfl
  | cons x r ih =>
    rw [List.map_cons, List.map_cons, List.map_cons, List.sum_cons, List.sum_cons, List.sum_cons, ih]
    omega
/-- how many pairs of squares make a number -/
def CC (q n : Int) : Int := q + qS q (-1) 0 n
theorem CC_sum {q : Int} (hq : q ∈ primes) (n : Int) : ((sqs q).map fun o => (((sqs q).count ((n - o).fmod q) : Nat) : Int)).sum = CC q n := by
  obtain ⟨q1, q2⟩ := prime_pos q hq
  have e3 : ((q.toNat : Nat) : Int) = q := Int.toNat_of_nonneg (by omega)
  have e : ((sqs q).map fun o => (((sqs q).count ((n - o).fmod q) : Nat) : Int)) = (List.range q.toNat).map fun (j : Nat) => (fun _ => 1 : Nat → Int) j + (fun j : Nat => sgn q ((-1 * j * j + 0 * j + n).fmod q)) j := by
    have : ∀ o, (((sqs q).count ((n - o).fmod q) : Nat) : Int) = 1 + sgn q ((n - o).fmod q) := fun o => cnt_val hq _
    simp only [this]
    unfold sqs
    rw [List.map_map]
    apply List.map_congr_left
    intro j _
    show 1 + sgn q _ = 1 + sgn q _
    obtain ⟨k, hk⟩ := fm_split q ((j : Int) * j)
    rw [fm_congr (q := q) (x := n - ((j : Int) * j).fmod q) (y := -1 * j * j + 0 * j + n) (k := k) (by grind)]
  rw [e]
  show sumR q.toNat (fun j => _ + _) = _
  rw [sumR_add, sumR_const, e3, Int.mul_one]
  rfl
theorem neg_one {q : Int} (hq : q ∈ primes) : (-1 : Int).fmod q = q - 1 := (show ∀ q ∈ primes, (-1 : Int).fmod q = q - 1 by decide) q hq
theorem CC_val {q : Int} (hq : q ∈ primes) (n : Int) : CC q n = if n.fmod q = 0 then q + (q - 1) * sgn q (q - 1) else q - sgn q (q - 1) := by
  obtain ⟨q1, q2⟩ := prime_pos q hq
  unfold CC
  have hz : (-1 : Int).fmod q ≠ 0 := by rw [neg_one hq]; have := (show ∀ q ∈ primes, 3 ≤ q by decide) q hq; omega
  rw [quad_val hq 0 n hz, neg_one hq]
  have four : (0 * 0 - 4 * -1 * n).fmod q = 0 ↔ n.fmod q = 0 := by
    have e : (0 * 0 - 4 * -1 * n : Int) = 4 * n := by omega
    rw [e]
    have i4 : ∃ i k : Int, 4 * i = 1 + q * k := inv_ok hq ((show ∀ q ∈ primes, (4 : Int).fmod q ≠ 0 by decide) q hq)
    obtain ⟨i, k, hi⟩ := i4
    constructor
    · intro z
      obtain ⟨l, hl⟩ := fm_split q (4 * n)
      rw [z, Int.zero_add] at hl
      have : n = 0 + q * (l * i - k * n) := by grind
      rw [fm_congr this, Int.zero_fmod]
    · intro z
      obtain ⟨l, hl⟩ := fm_split q n
      rw [z, Int.zero_add] at hl
      have : 4 * n = 0 + q * (4 * l) := by grind
      rw [fm_congr this, Int.zero_fmod]
  by_cases h : n.fmod q = 0
  · rw [if_pos (four.mpr h), if_pos h, Int.mul_comm]
  · rw [if_neg fun z => h (four.mp z), if_neg h]
    omega
/-! runs -/
theorem circle_ok {q : Int} (hq : q ∈ primes) (n : Int) (st : Sto) : fn_circle_count [.int q, .int n] st = .ok (.int (CC q n)) st := by
  obtain ⟨q1, q2⟩ := prime_pos q hq
  have q0 : q ≠ 0 := by omega
  have ei : ini 6 [.int q, .int n] = [.val (.int q), .val (.int n), .un, .un, .un, .un] := rfl
  have hc := lc1 (e0 := [.val (.int q), .val (.int n), .un, .un, .un, .un]) (i := 4) (sl := .un) (s := st) (f := fun x => match x with | .int k => .int ((k * k).fmod q) | d => d) (ds := rangeD 0 q.toNat) (elt := (fz (mOp2 dMod (fz (mOp2 dMul (bVar 4) (bVar 4))) (bVar 0)))) rfl fun x hx => by
    obtain ⟨k, rfl, k1, k2⟩ := mem_rangeD hx
    simp only [v_ok, v_bnd, v_ret, v_eVar, v_bVar, v_fz, v_frz, v_up, v_fro, v_op2, v_op1, v_opN, v_pv2, v_pv1, v_pvN, v_pvf, v_pvn, v_pvt, v_pI, v_pB, v_d1, v_d2, v_od, v_od2, r_int, r_bl, r_non, r_str, r_lst, r_tup, r_fzl, r_rep, r_dic, r_nil, r_cons, v_seq, v_seqn, v_seqr, v_nil, v_sif, v_mif, v_ite, v_sret, v_sretN, v_set, v_setM, v_sl1, v_sl2, v_bl, v_blP, v_tru, v_truM, v_opt, v_chain, v_chP, v_and, v_or, v_not, v_eNot, v_eAnd, v_andD, v_eOr, v_orD, v_aNil, v_aCons, v_lNil, v_lCons, v_par, v_parM, v_setE, v_setN, v_oN, v_oP, v_part, v_slc, v_call, v_callK, v_for, v_seqI, v_it1, v_it2, v_it3, v_rng1, v_rng1M, v_rng2, v_rng2M, v_enu, v_enuM, v_rv, v_rvM, v_zp, v_zp1, v_lc, v_lr1, v_sti, v_app, v_popR, d_sub, d_add, d_neg, d_eq, d_ne, d_lt, d_le, d_gt, d_ge, d_int, d_len, d_lenT, d_isN, d_isNN, t_bl, List.getElem?_cons_zero, List.getElem?_cons_succ, List.set_cons_zero, List.set_cons_succ, List.length_cons, List.length_nil, if_true, if_false, Bool.false_eq_true, d_mul (mulSR (i := k) (j := k) (by omega) (by omega)), d_mod q0]
  have el : (rangeD 0 q.toNat).map (fun x => match x with | .int k => D.int ((k * k).fmod q) | d => d) = (sqs q).map D.int := by
    unfold rangeD sqs
    rw [List.map_map, List.map_map]
    apply List.map_congr_left
    intro j _
    show D.int _ = D.int _
    rw [Int.zero_add]
  rw [el] at hc
  have hc2 := v_lcP (ds := rangeD 0 q.toNat) (vs := [4]) rfl (by rw [rangeD_len]; exact lim_le (by omega)) hc
  obtain ⟨e', s', h3, l, t, x5, rfl, rfl, hl, ht⟩ := forL_ok (tg := tgN 5) (B := (sSeq (sSet 3 (mOp2 dAdd (bVar 3) (fz (mCnt (bVar 2) (fz (mOp2 dMod (fz (mOp2 dSub (bVar 1) (bVar 5))) (bVar 0))))))) sNil))
    (fun ds e s => ∃ (l : List Int) (t : Int) (x5 : Sl), e = [.val (.int q), .val (.int n), .val (.lst ((sqs q).map D.int)), .val (.int t), .un, x5] ∧ s = st ∧ ds = l.map D.int ∧ t + (l.map fun o => (((sqs q).count ((n - o).fmod q) : Nat) : Int)).sum = CC q n) (fun x rr e s J => by
      obtain ⟨l, t, x5, rfl, rfl, hl, ht⟩ := J
      cases l with
      | nil => cases hl
      | cons o l =>
        rw [List.map_cons] at hl
        obtain ⟨h1, h2⟩ := List.cons.inj hl
        subst h1
        refine ⟨_, _, _, rfl, ?_, l, t + (((sqs q).count ((n - o).fmod q) : Nat) : Int), .val (.int o), rfl, rfl, h2, by rw [List.map_cons, List.sum_cons] at ht; omega⟩
        show (sSeq _ _) [.val (.int q), .val (.int n), .val (.lst ((sqs q).map D.int)), .val (.int t), .un, .val (.int o)] _ = _
        simp only [v_ok, v_bnd, v_ret, v_eVar, v_bVar, v_fz, v_frz, v_up, v_fro, v_op2, v_op1, v_opN, v_pv2, v_pv1, v_pvN, v_pvf, v_pvn, v_pvt, v_pI, v_pB, v_d1, v_d2, v_od, v_od2, r_int, r_bl, r_non, r_str, r_lst, r_tup, r_fzl, r_rep, r_dic, r_nil, r_cons, v_seq, v_seqn, v_seqr, v_nil, v_sif, v_mif, v_ite, v_sret, v_sretN, v_set, v_setM, v_sl1, v_sl2, v_bl, v_blP, v_tru, v_truM, v_opt, v_chain, v_chP, v_and, v_or, v_not, v_eNot, v_eAnd, v_andD, v_eOr, v_orD, v_aNil, v_aCons, v_lNil, v_lCons, v_par, v_parM, v_setE, v_setN, v_oN, v_oP, v_part, v_slc, v_call, v_callK, v_for, v_seqI, v_it1, v_it2, v_it3, v_rng1, v_rng1M, v_rng2, v_rng2M, v_enu, v_enuM, v_rv, v_rvM, v_zp, v_zp1, v_lc, v_lr1, v_sti, v_app, v_popR, d_sub, d_add, d_neg, d_eq, d_ne, d_lt, d_le, d_gt, d_ge, d_int, d_len, d_lenT, d_isN, d_isNN, t_bl, List.getElem?_cons_zero, List.getElem?_cons_succ, List.set_cons_zero, List.set_cons_succ, List.length_cons, List.length_nil, if_true, if_false, Bool.false_eq_true, v_cnt, v_chk, d_mod q0, d_cnt]) (ds := (sqs q).map D.int) (e := [.val (.int q), .val (.int n), .val (.lst ((sqs q).map D.int)), .val (.int 0), .un, .un]) (s := st)
    ⟨sqs q, 0, .un, rfl, rfl, rfl, by rw [Int.zero_add]; exact CC_sum hq n⟩
  have lz : l = [] := by cases l <;> first | rfl | cases hl
  subst lz
  have tz : t = CC q n := by simpa using ht
  subst tz
  refine v_fn (e' := [.val (.int q), .val (.int n), .val (.lst ((sqs q).map D.int)), .val (.int (CC q n)), .un, x5]) ?_
  rw [ei]
  unfold m_circle_count
  simp only [v_ok, v_bnd, v_ret, v_eVar, v_bVar, v_fz, v_frz, v_up, v_fro, v_op2, v_op1, v_opN, v_pv2, v_pv1, v_pvN, v_pvf, v_pvn, v_pvt, v_pI, v_pB, v_d1, v_d2, v_od, v_od2, r_int, r_bl, r_non, r_str, r_lst, r_tup, r_fzl, r_rep, r_dic, r_nil, r_cons, v_seq, v_seqn, v_seqr, v_nil, v_sif, v_mif, v_ite, v_sret, v_sretN, v_set, v_setM, v_sl1, v_sl2, v_bl, v_blP, v_tru, v_truM, v_opt, v_chain, v_chP, v_and, v_or, v_not, v_eNot, v_eAnd, v_andD, v_eOr, v_orD, v_aNil, v_aCons, v_lNil, v_lCons, v_par, v_parM, v_setE, v_setN, v_oN, v_oP, v_part, v_slc, v_call, v_callK, v_for, v_seqI, v_it1, v_it2, v_it3, v_rng1, v_rng1M, v_rng2, v_rng2M, v_enu, v_enuM, v_rv, v_rvM, v_zp, v_zp1, v_lc, v_lr1, v_sti, v_app, v_popR, d_sub, d_add, d_neg, d_eq, d_ne, d_lt, d_le, d_gt, d_ge, d_int, d_len, d_lenT, d_isN, d_isNN, t_bl, List.getElem?_cons_zero, List.getElem?_cons_succ, List.set_cons_zero, List.set_cons_succ, List.length_cons, List.length_nil, if_true, if_false, Bool.false_eq_true, rngB_of (show (-1000000000 : Int) ≤ q by omega) (by omega), hc2, h3]
def waysT (q : Int) : List Int := (List.range q.toNat).map fun (k : Nat) => 1 + sgn q (k : Int)
theorem ways_tab : ∀ q ∈ primes, ∀ st, fn__law_ways [.int q] st = .ok (.lst ((waysT q).map D.int)) st :=
  pcase (fun st => by kernel_rfl) (fun st => by kernel_rfl) (fun st => by kernel_rfl) (fun st => by kernel_rfl) (fun st => by kernel_rfl) (fun st => by kernel_rfl) (fun st => by kernel_rfl) (fun st => by kernel_rfl) (fun st => by kernel_rfl) (fun st => by kernel_rfl) (fun st => by kernel_rfl) (fun st => by kernel_rfl) (fun st => by kernel_rfl) (fun st => by kernel_rfl) (fun st => by kernel_rfl) (fun st => by kernel_rfl) (fun st => by kernel_rfl)
theorem at_neg {α : Type} (f : Nat → α) {n : Nat} {i : Int} (h1 : -(n : Int) ≤ i) (h2 : i < 0) : L2.atI ((List.range n).map f) i = some (f (i + n).toNat) := by
  unfold L2.atI L2.ixN
  rw [List.length_map, List.length_range, if_neg (by omega), if_pos h1]
  show ((List.range n).map f)[(i + n).toNat]? = _
  rw [List.getElem?_map, List.getElem?_range (by omega)]
  rfl
end R83
namespace R83
open PySem PD
theorem way_ix {q : Int} {k : Nat} (hk : k < q.toNat) : dIx (.lst ((waysT q).map D.int)) (.int (k : Int)) = some (.fro (.int (1 + sgn q (k : Int)))) := by
  show (L2.atI ((waysT q).map D.int) (k : Int)).map PV.fro = _
  unfold waysT
  rw [List.map_map, at_map _ hk]
  rfl
theorem way_neg {q : Int} (h : 0 < q) {i : Int} (h1 : -q ≤ i) (h2 : i < 0) : dIx (.lst ((waysT q).map D.int)) (.int i) = some (.fro (.int (1 + sgn q (((i + q).toNat : Nat) : Int)))) := by
  have e3 : ((q.toNat : Nat) : Int) = q := Int.toNat_of_nonneg (by omega)
  show (L2.atI ((waysT q).map D.int) i).map PV.fro = _
  unfold waysT
  rw [List.map_map, at_neg _ (by omega) h2, e3]
  rfl
theorem own_count_ok {q : Int} (hq : q ∈ primes) (n : Int) (st : Sto) : fn__law_own_count [.int q, .lst ((waysT q).map D.int), .int n] st = .ok (.int (CC q n)) st := by
  obtain ⟨q1, q2⟩ := prime_pos q hq
  have q0 : q ≠ 0 := by omega
  have e3 : ((q.toNat : Nat) : Int) = q := Int.toNat_of_nonneg (by omega)
  obtain ⟨m, ag, _, ho, _, _, tw⟩ := facts3 hq
  obtain ⟨r, hr, hl⟩ := fmod_nat (n := n) q1
  have ei : ini 5 [.int q, .lst ((waysT q).map D.int), .int n] = [.val (.int q), .val (.lst ((waysT q).map D.int)), .val (.int n), .un, .un] := rfl
  let G : Nat → Int := fun k => (1 + sgnM m k) * (1 + sgnM m ((r + q.toNat - k) % q.toNat))
  have hc := lc1 (e0 := [.val (.int q), .val (.lst ((waysT q).map D.int)), .val (.int n), .val (.int (r : Int)), .un]) (i := 4) (sl := .un) (s := st) (f := fun x => match x with | .int k => .int (G k.toNat) | d => d) (ds := rangeD 0 q.toNat) (elt := (fz (mOp2 dMul (fz (mOp2 dIx (bVar 1) (bVar 4))) (fz (mOp2 dIx (bVar 1) (fz (mOp2 dSub (bVar 3) (bVar 4)))))))) rfl fun x hx => by
    obtain ⟨k, rfl, k1, k2⟩ := mem_rangeD hx
    obtain ⟨j, rfl⟩ := Int.eq_ofNat_of_zero_le k1
    have hj : j < q.toNat := by omega
    have w1 := way_ix (q := q) hj
    rw [ag j hj] at w1
    have w2 : dIx (.lst ((waysT q).map D.int)) (.int ((r : Int) - (j : Int))) = some (.fro (.int (1 + sgnM m ((r + q.toNat - j) % q.toNat)))) := by
      by_cases hle : j ≤ r
      · have e : (r : Int) - (j : Int) = ((r - j : Nat) : Int) := by omega
        have e2 : (r + q.toNat - j) % q.toNat = r - j := by
          have : r + q.toNat - j = (r - j) + q.toNat := by omega
          rw [this, Nat.add_mod_right, Nat.mod_eq_of_lt (by omega)]
        rw [e, e2, way_ix (by omega), ag _ (by omega)]
      · have e2 : (r + q.toNat - j) % q.toNat = ((r : Int) - j + q).toNat := by
          rw [Nat.mod_eq_of_lt (by omega)]
          omega
        rw [way_neg q1 (by omega) (by omega), e2, ag _ (by omega)]
    have sm : ∀ v, sgnM m v = 0 ∨ sgnM m v = 1 ∨ sgnM m v = -1 := fun v => by
      unfold sgnM
      split
      · exact .inl rfl
      · split
        · exact .inr (.inl rfl)
        · exact .inr (.inr rfl)
    have mm : dMul (.int (1 + sgnM m j)) (.int (1 + sgnM m ((r + q.toNat - j) % q.toNat))) = pI ((1 + sgnM m j) * (1 + sgnM m ((r + q.toNat - j) % q.toNat))) := d_mul (by rcases sm j with h | h | h <;> rw [h] <;> exact mulSL (by decide) (by decide))
    simp only [v_ok, v_bnd, v_ret, v_eVar, v_bVar, v_fz, v_frz, v_up, v_fro, v_op2, v_op1, v_opN, v_pv2, v_pv1, v_pvN, v_pvf, v_pvn, v_pvt, v_pI, v_pB, v_d1, v_d2, v_od, v_od2, r_int, r_bl, r_non, r_str, r_lst, r_tup, r_fzl, r_rep, r_dic, r_nil, r_cons, v_seq, v_seqn, v_seqr, v_nil, v_sif, v_mif, v_ite, v_sret, v_sretN, v_set, v_setM, v_sl1, v_sl2, v_bl, v_blP, v_tru, v_truM, v_opt, v_chain, v_chP, v_and, v_or, v_not, v_eNot, v_eAnd, v_andD, v_eOr, v_orD, v_aNil, v_aCons, v_lNil, v_lCons, v_par, v_parM, v_setE, v_setN, v_oN, v_oP, v_part, v_slc, v_call, v_callK, v_for, v_seqI, v_it1, v_it2, v_it3, v_rng1, v_rng1M, v_rng2, v_rng2M, v_enu, v_enuM, v_rv, v_rvM, v_zp, v_zp1, v_lc, v_lr1, v_sti, v_app, v_popR, d_sub, d_add, d_neg, d_eq, d_ne, d_lt, d_le, d_gt, d_ge, d_int, d_len, d_lenT, d_isN, d_isNN, t_bl, List.getElem?_cons_zero, List.getElem?_cons_succ, List.set_cons_zero, List.set_cons_succ, List.length_cons, List.length_nil, if_true, if_false, Bool.false_eq_true, w1, w2, mm, G, Int.toNat_natCast]
  have el : (rangeD 0 q.toNat).map (fun x => match x with | .int k => D.int (G k.toNat) | d => d) = (List.range q.toNat).map fun (j : Nat) => D.int (G j) := by
    unfold rangeD
    rw [List.map_map]
    apply List.map_congr_left
    intro j _
    show D.int _ = D.int _
    rw [Int.zero_add, Int.toNat_natCast]
  rw [el] at hc
  have hc2 := v_lcP (ds := rangeD 0 q.toNat) (vs := [4]) rfl (by rw [rangeD_len]; exact lim_le (by omega)) hc
  have sv : sgnM m (q.toNat - 1) = sgn q (q - 1) := by
    rw [← ag _ (by omega)]
    congr 1
    omega
  have hs : dSum [.lst ((List.range q.toNat).map fun (j : Nat) => D.int (G j))] = some (.fro (.int (CC q n))) := by
    show (intsD _).map _ = _
    rw [ints_map, CC_val hq, hr]
    have := of_decide_eq_true (List.all_eq_true.mp ho r (List.mem_range.mpr hl))
    show some (PV.fro (D.int ((List.range q.toNat).map G).sum)) = _
    have e5 : ((List.range q.toNat).map G).sum = if r = 0 then ((q.toNat : Nat) : Int) + (((q.toNat : Nat) : Int) - 1) * sgnM m (q.toNat - 1) else ((q.toNat : Nat) : Int) - sgnM m (q.toNat - 1) := this
    rw [e5, e3, sv]
    by_cases r0 : r = 0
    · rw [if_pos r0, if_pos (by omega)]
    · rw [if_neg r0, if_neg (by omega)]
  refine v_fn (e' := [.val (.int q), .val (.lst ((waysT q).map D.int)), .val (.int n), .val (.int (r : Int)), .un]) ?_
  rw [ei]
  unfold m__law_own_count
  simp only [v_ok, v_bnd, v_ret, v_eVar, v_bVar, v_fz, v_frz, v_up, v_fro, v_op2, v_op1, v_opN, v_pv2, v_pv1, v_pvN, v_pvf, v_pvn, v_pvt, v_pI, v_pB, v_d1, v_d2, v_od, v_od2, r_int, r_bl, r_non, r_str, r_lst, r_tup, r_fzl, r_rep, r_dic, r_nil, r_cons, v_seq, v_seqn, v_seqr, v_nil, v_sif, v_mif, v_ite, v_sret, v_sretN, v_set, v_setM, v_sl1, v_sl2, v_bl, v_blP, v_tru, v_truM, v_opt, v_chain, v_chP, v_and, v_or, v_not, v_eNot, v_eAnd, v_andD, v_eOr, v_orD, v_aNil, v_aCons, v_lNil, v_lCons, v_par, v_parM, v_setE, v_setN, v_oN, v_oP, v_part, v_slc, v_call, v_callK, v_for, v_seqI, v_it1, v_it2, v_it3, v_rng1, v_rng1M, v_rng2, v_rng2M, v_enu, v_enuM, v_rv, v_rvM, v_zp, v_zp1, v_lc, v_lr1, v_sti, v_app, v_popR, d_sub, d_add, d_neg, d_eq, d_ne, d_lt, d_le, d_gt, d_ge, d_int, d_len, d_lenT, d_isN, d_isNN, t_bl, List.getElem?_cons_zero, List.getElem?_cons_succ, List.set_cons_zero, List.set_cons_succ, List.length_cons, List.length_nil, if_true, if_false, Bool.false_eq_true, d_mod q0, hr, rngB_of (show (-1000000000 : Int) ≤ q by omega) (by omega), hc2, hs]
theorem sgn_last {q : Int} (hq : q ∈ primes) : sgn q (q - 1) = 1 ∨ sgn q (q - 1) = -1 := by
  have : (primes.all fun q => decide (sgn q (q - 1) = 1 ∨ sgn q (q - 1) = -1)) = true := by decide +kernel
  exact of_decide_eq_true (List.all_eq_true.mp this q hq)
theorem count_ok {q : Int} (hq : q ∈ primes) (n : Int) (b : Bool) (st : Sto) : fn__law_is_count_right [.int q, .lst ((waysT q).map D.int), .int n, .bl b] st = .ok (.bl true) st := by
  obtain ⟨q1, q2⟩ := prime_pos q hq
  have q3 : 3 ≤ q := (show ∀ q ∈ primes, 3 ≤ q by decide) q hq
  have q0 : q ≠ 0 := by omega
  have ei : ini 7 [.int q, .lst ((waysT q).map D.int), .int n, .bl b] = [.val (.int q), .val (.lst ((waysT q).map D.int)), .val (.int n), .val (.bl b), .un, .un, .un] := rfl
  have w1 : dIx (.lst ((waysT q).map D.int)) (.int (q - 1)) = some (.fro (.int (1 + sgn q (q - 1)))) := by
    have := way_ix (q := q) (k := (q - 1).toNat) (by omega)
    have e : (((q - 1).toNat : Nat) : Int) = q - 1 := Int.toNat_of_nonneg (by omega)
    rw [e] at this
    exact this
  have l2 : (2 : Nat) ≤ lim := lim_le (by decide)
  have pk : ∀ x y : D, pick [0, 1] [x, y] = [x, y] := fun _ _ => rfl
  have dn : ∀ i, dNeg (.int i) = pI (-i) := fun _ => rfl
  have oc := fun st => own_count_ok hq n st
  have cc := fun st => circle_ok hq n st
  have so := fun st => sign_ok (st := st) (q := q) (n := -1) q1 (by omega)
  rw [neg_one hq] at so
  have cv := CC_val hq n
  have mq : ∀ j, dMul (.int (q - 1)) (.int j) = pI ((q - 1) * j) := fun j => d_mul (mulSL (by omega) (by omega))
  obtain ⟨g1, g2⟩ := fmod_rng q1 n
  have ht : ∀ (t g : Int), t = 1 ∨ t = -1 → sgn q (q - 1) = t → CC q n = g → shI g = true → shI t = true → (g = if n.fmod q = 0 then q + (q - 1) * t else q - t) → fn__law_is_count_right [.int q, .lst ((waysT q).map D.int), .int n, .bl b] st = .ok (.bl true) st := by
    intro t g h1 h2 h3 h4 h5 h6
    rw [h2] at w1 so
    rw [h3] at oc cc
    have sm := fun st => same_ok (d := .lst [.int g, .int t]) st (lv_l (fun x hx => by
      simp only [List.mem_cons, List.not_mem_nil, or_false] at hx
      rcases hx with h | h <;> rw [h] <;> exact lv_of (atom_int (by assumption))) (show 2 ≤ 80 by decide)) (fun _ z => by cases z)
    refine v_fn (e' := [.val (.int q), .val (.lst ((waysT q).map D.int)), .val (.int n), .val (.bl b), .val (.int g), .val (.int t), .val (.int g)]) ?_
    rw [ei]
    unfold m__law_is_count_right
    by_cases hz : n.fmod q = 0
    · rw [if_pos hz] at h6
      have hd := decide_eq_true h6
      have nz : ¬ (0 : Int) < 0 := by decide
      rcases h1 with h1 | h1 <;> subst h1 <;>
        cases b <;> simp only [v_ok, v_bnd, v_ret, v_eVar, v_bVar, v_fz, v_frz, v_up, v_fro, v_op2, v_op1, v_opN, v_pv2, v_pv1, v_pvN, v_pvf, v_pvn, v_pvt, v_pI, v_pB, v_d1, v_d2, v_od, v_od2, r_int, r_bl, r_non, r_str, r_lst, r_tup, r_fzl, r_rep, r_dic, r_nil, r_cons, v_seq, v_seqn, v_seqr, v_nil, v_sif, v_mif, v_ite, v_sret, v_sretN, v_set, v_setM, v_sl1, v_sl2, v_bl, v_blP, v_tru, v_truM, v_opt, v_chain, v_chP, v_and, v_or, v_not, v_eNot, v_eAnd, v_andD, v_eOr, v_orD, v_aNil, v_aCons, v_lNil, v_lCons, v_par, v_parM, v_setE, v_setN, v_oN, v_oP, v_part, v_slc, v_call, v_callK, v_for, v_seqI, v_it1, v_it2, v_it3, v_rng1, v_rng1M, v_rng2, v_rng2M, v_enu, v_enuM, v_rv, v_rvM, v_zp, v_zp1, v_lc, v_lr1, v_sti, v_app, v_popR, d_sub, d_add, d_neg, d_eq, d_ne, d_lt, d_le, d_gt, d_ge, d_int, d_len, d_lenT, d_isN, d_isNN, t_bl, List.getElem?_cons_zero, List.getElem?_cons_succ, List.set_cons_zero, List.set_cons_succ, List.length_cons, List.length_nil, if_true, if_false, Bool.false_eq_true, v_lst, l2, ca3 (oc _), ca2 (cc _), w1, ca2 (so _), k2, pk, dn, ca2 (sm _), Bool.not_true, d_mod q0, hz, nz, decide_false, decide_true, show (0 : Int) < 1 + 1 by decide, show ¬ (0 : Int) < 1 + -1 by decide, mq, hd, Nat.zero_add, Nat.reduceAdd]
    · rw [if_neg hz] at h6
      have hd := decide_eq_true h6
      have pz : (0 : Int) < n.fmod q := by omega
      rcases h1 with h1 | h1 <;> subst h1 <;>
        cases b <;> simp only [v_ok, v_bnd, v_ret, v_eVar, v_bVar, v_fz, v_frz, v_up, v_fro, v_op2, v_op1, v_opN, v_pv2, v_pv1, v_pvN, v_pvf, v_pvn, v_pvt, v_pI, v_pB, v_d1, v_d2, v_od, v_od2, r_int, r_bl, r_non, r_str, r_lst, r_tup, r_fzl, r_rep, r_dic, r_nil, r_cons, v_seq, v_seqn, v_seqr, v_nil, v_sif, v_mif, v_ite, v_sret, v_sretN, v_set, v_setM, v_sl1, v_sl2, v_bl, v_blP, v_tru, v_truM, v_opt, v_chain, v_chP, v_and, v_or, v_not, v_eNot, v_eAnd, v_andD, v_eOr, v_orD, v_aNil, v_aCons, v_lNil, v_lCons, v_par, v_parM, v_setE, v_setN, v_oN, v_oP, v_part, v_slc, v_call, v_callK, v_for, v_seqI, v_it1, v_it2, v_it3, v_rng1, v_rng1M, v_rng2, v_rng2M, v_enu, v_enuM, v_rv, v_rvM, v_zp, v_zp1, v_lc, v_lr1, v_sti, v_app, v_popR, d_sub, d_add, d_neg, d_eq, d_ne, d_lt, d_le, d_gt, d_ge, d_int, d_len, d_lenT, d_isN, d_isNN, t_bl, List.getElem?_cons_zero, List.getElem?_cons_succ, List.set_cons_zero, List.set_cons_succ, List.length_cons, List.length_nil, if_true, if_false, Bool.false_eq_true, v_lst, l2, ca3 (oc _), ca2 (cc _), w1, ca2 (so _), k2, pk, dn, ca2 (sm _), Bool.not_true, d_mod q0, pz, decide_false, decide_true, show (0 : Int) < 1 + 1 by decide, show ¬ (0 : Int) < 1 + -1 by decide, hd, Nat.zero_add, Nat.reduceAdd]
  have shg : shI (CC q n) = true := by
    rw [cv]
    rcases sgn_last hq with h | h <;> rw [h] <;> split <;> exact shI_of (by omega) (by omega)
  have sht : shI (sgn q (q - 1)) = true := by rcases sgn_last hq with h | h <;> rw [h] <;> decide +kernel
  exact ht _ _ (sgn_last hq) rfl rfl shg sht cv
theorem sum_const {q : Int} (hq : q ∈ primes) : q * q = (q + (q - 1) * sgn q (q - 1)) + (q - 1) * (q - sgn q (q - 1)) := by
  rcases sgn_last hq with h | h <;> rw [h] <;> grind
theorem all_ok {q : Int} {st : Sto} (hB : Bag st) (hq : q ∈ primes) : ∃ st', fn__law_are_all_right [.ref 0, .int q] st = .ok (.bl true) st' ∧ Bag st' := by
  obtain ⟨q1, q2⟩ := prime_pos q hq
  have q3 : 3 ≤ q := (show ∀ q ∈ primes, 3 ≤ q by decide) q hq
  have q0 : q ≠ 0 := by omega
  have e3 : ((q.toNat : Nat) : Int) = q := Int.toNat_of_nonneg (by omega)
  have ei : ini 6 [.ref 0, .int q] = [.val (.ref 0), .val (.int q), .un, .un, .un, .un] := rfl
  -- what the rests still to come make
  let g : D → Int := fun d => match d with | .int k => CC q k | _ => 0
  obtain ⟨e', s', h3, t, x4, x5, rfl, hB', _, ht⟩ := forL_ok (tg := tgN 4) (B := (sSeq (sSet 5 (up (eCall 3 fn__law_with_rest (aCons (eVar 0) (aCons (eVar 1) (aCons (eVar 4) aNil)))))) (sSeq (sIf (mNot (mTru (eCall 4 fn__law_is_count_right (aCons (eVar 1) (aCons (eVar 2) (aCons (eVar 5) (aCons (fz (mOp2 dEq (fz (mOp2 dMod (bVar 4) (ret (D.int 2)))) (ret (D.int 1)))) aNil))))))) (sSeq (sRet (ret (D.bl false))) sNil) sNil) (sSeq (sSet 3 (mOp2 dAdd (bVar 3) (eCall 2 fn_circle_count (aCons (eVar 1) (aCons (eVar 5) aNil))))) sNil))))
    (fun ds e s => ∃ (t : Int) (x4 x5 : Sl), e = [.val (.ref 0), .val (.int q), .val (.lst ((waysT q).map D.int)), .val (.int t), x4, x5] ∧ Bag s ∧ (∀ d ∈ ds, ∃ k, d = D.int k) ∧ t + (ds.map g).sum = q * q) (fun x rr e s J => by
      obtain ⟨t, x4, x5, rfl, hB, hd, ht⟩ := J
      obtain ⟨k, rfl⟩ := hd x (List.mem_cons_self ..)
      obtain ⟨n, s', e', ⟨l, hn⟩, hB'⟩ := with_ok (q := q) (rest := k) hB q1 (by omega)
      have cn : CC q n = CC q k := by rw [CC_val hq, CC_val hq, fm_congr hn]
      refine ⟨_, _, s', rfl, ?_, t + CC q n, .val (.int k), .val (.int n), rfl, hB', fun d m => hd d (List.mem_cons_of_mem _ m), ?_⟩
      · show (sSeq _ _) [.val (.ref 0), .val (.int q), .val (.lst ((waysT q).map D.int)), .val (.int t), .val (.int k), x5] s = _
        simp only [v_ok, v_bnd, v_ret, v_eVar, v_bVar, v_fz, v_frz, v_up, v_fro, v_op2, v_op1, v_opN, v_pv2, v_pv1, v_pvN, v_pvf, v_pvn, v_pvt, v_pI, v_pB, v_d1, v_d2, v_od, v_od2, r_int, r_bl, r_non, r_str, r_lst, r_tup, r_fzl, r_rep, r_dic, r_nil, r_cons, v_seq, v_seqn, v_seqr, v_nil, v_sif, v_mif, v_ite, v_sret, v_sretN, v_set, v_setM, v_sl1, v_sl2, v_bl, v_blP, v_tru, v_truM, v_opt, v_chain, v_chP, v_and, v_or, v_not, v_eNot, v_eAnd, v_andD, v_eOr, v_orD, v_aNil, v_aCons, v_lNil, v_lCons, v_par, v_parM, v_setE, v_setN, v_oN, v_oP, v_part, v_slc, v_call, v_callK, v_for, v_seqI, v_it1, v_it2, v_it3, v_rng1, v_rng1M, v_rng2, v_rng2M, v_enu, v_enuM, v_rv, v_rvM, v_zp, v_zp1, v_lc, v_lr1, v_sti, v_app, v_popR, d_sub, d_add, d_neg, d_eq, d_ne, d_lt, d_le, d_gt, d_ge, d_int, d_len, d_lenT, d_isN, d_isNN, t_bl, List.getElem?_cons_zero, List.getElem?_cons_succ, List.set_cons_zero, List.set_cons_succ, List.length_cons, List.length_nil, if_true, if_false, Bool.false_eq_true, ca3 e', d_mod (show (2 : Int) ≠ 0 by decide), ca4 (count_ok hq n _ _), Bool.not_true, ca2 (circle_ok hq n _)]
      · rw [cn]
        rw [List.map_cons, List.sum_cons] at ht
        have : g (.int k) = CC q k := rfl
        omega) (ds := rangeD 0 q.toNat) (e := [.val (.ref 0), .val (.int q), .val (.lst ((waysT q).map D.int)), .val (.int 0), .un, .un]) (s := st)
    ⟨0, .un, .un, rfl, hB, fun d m => by obtain ⟨k, rfl, _⟩ := mem_rangeD m; exact ⟨k, rfl⟩, by
      rw [Int.zero_add]
      have e : ((rangeD 0 q.toNat).map g).sum = sumR q.toNat fun j => (q - sgn q (q - 1)) + (if j = 0 then q * sgn q (q - 1) else 0) := by
        unfold rangeD sumR
        rw [List.map_map]
        congr 1
        apply List.map_congr_left
        intro j hj
        have hj' := List.mem_range.mp hj
        show CC q (0 + (j : Int)) = _
        rw [Int.zero_add, CC_val hq, small_fmod (by omega) (by omega)]
        by_cases j0 : j = 0
        · rw [if_pos j0, if_pos (by omega)]; grind
        · rw [if_neg j0, if_neg (by omega)]; omega
      rw [e, sumR_add, sumR_const, e3]
      have one : sumR q.toNat (fun j => if j = 0 then q * sgn q (q - 1) else 0) = q * sgn q (q - 1) := by
        obtain ⟨n, hn⟩ : ∃ n, q.toNat = n + 1 := ⟨q.toNat - 1, by omega⟩
        rw [hn]
        unfold sumR
        rw [List.range_succ_eq_map, List.map_cons, List.sum_cons, List.map_map]
        have : ((fun j : Nat => if j = 0 then q * sgn q (q - 1) else 0) ∘ Nat.succ) = fun _ => 0 := by
          funext j
          simp
        rw [this]
        have z : ((List.range n).map fun _ => (0 : Int)).sum = 0 := by have := sumR_const 0 n; unfold sumR at this; rw [this]; simp
        rw [z]
        simp
      rw [one]
      grind⟩
  have tz : t = q * q := by simpa using ht
  subst tz
  refine ⟨s', v_fn (e' := [.val (.ref 0), .val (.int q), .val (.lst ((waysT q).map D.int)), .val (.int (q * q)), x4, x5]) ?_, hB'⟩
  rw [ei]
  unfold m__law_are_all_right
  simp only [v_ok, v_bnd, v_ret, v_eVar, v_bVar, v_fz, v_frz, v_up, v_fro, v_op2, v_op1, v_opN, v_pv2, v_pv1, v_pvN, v_pvf, v_pvn, v_pvt, v_pI, v_pB, v_d1, v_d2, v_od, v_od2, r_int, r_bl, r_non, r_str, r_lst, r_tup, r_fzl, r_rep, r_dic, r_nil, r_cons, v_seq, v_seqn, v_seqr, v_nil, v_sif, v_mif, v_ite, v_sret, v_sretN, v_set, v_setM, v_sl1, v_sl2, v_bl, v_blP, v_tru, v_truM, v_opt, v_chain, v_chP, v_and, v_or, v_not, v_eNot, v_eAnd, v_andD, v_eOr, v_orD, v_aNil, v_aCons, v_lNil, v_lCons, v_par, v_parM, v_setE, v_setN, v_oN, v_oP, v_part, v_slc, v_call, v_callK, v_for, v_seqI, v_it1, v_it2, v_it3, v_rng1, v_rng1M, v_rng2, v_rng2M, v_enu, v_enuM, v_rv, v_rvM, v_zp, v_zp1, v_lc, v_lr1, v_sti, v_app, v_popR, d_sub, d_add, d_neg, d_eq, d_ne, d_lt, d_le, d_gt, d_ge, d_int, d_len, d_lenT, d_isN, d_isNN, t_bl, List.getElem?_cons_zero, List.getElem?_cons_succ, List.set_cons_zero, List.set_cons_succ, List.length_cons, List.length_nil, if_true, if_false, Bool.false_eq_true, ca1 (ways_tab q hq _), rngB_of (show (-1000000000 : Int) ≤ q by omega) (by omega), h3, d_mul (mulSL (i := q) (j := q) (by omega) (by omega)), decide_true]
end R83
namespace R83
open PySem PD
/-! roots of a formula -/
def FN (q a b c : Int) : Int := (((vals q a b c).count 0 : Nat) : Int)
theorem vals_rest {q : Int} (a b c : Int) : vals q (a.fmod q) (b.fmod q) (c.fmod q) = vals q a b c := by
  unfold vals
  apply List.map_congr_left
  intro j _
  obtain ⟨k, hk⟩ := fm_split q a
  obtain ⟨l, hl⟩ := fm_split q b
  obtain ⟨m, hm⟩ := fm_split q c
  exact (fm_congr (q := q) (x := a * j * j + b * j + c) (k := k * j * j + l * j + m) (by grind)).symm
theorem count_zero : ∀ l : List Int, ((l.count 0 : Nat) : Int) = (l.map fun v => if v = 0 then (1 : Int) else 0).sum
  | [] => rfl
  | x :: r => by
    rw [List.count_cons, List.map_cons, List.sum_cons, ← count_zero r]
    by_cases h : x = 0
    · rw [if_pos h, if_pos (by simp [h])]; omega
    · rw [if_neg h, if_neg (by simp [h])]; omega
theorem ind_sgn (q v : Int) : (if v = 0 then (1 : Int) else 0) = 1 - sgn q v * sgn q v := by
  by_cases h : v = 0
  · rw [if_pos h, h]
    have : sgn q 0 = 0 := if_pos rfl
    rw [this]
    rfl
  · rw [if_neg h]
    have : sgn q v = 1 ∨ sgn q v = -1 := by
      unfold sgn
      rw [if_neg h]
      split
      · exact .inl rfl
      · exact .inr rfl
    rcases this with h | h <;> rw [h] <;> rfl
theorem FN_sum (q a b c : Int) : FN q a b c = sumR q.toNat fun j => 1 - sgn q ((a * j * j + b * j + c).fmod q) * sgn q ((a * j * j + b * j + c).fmod q) := by
  unfold FN vals sumR
  rw [count_zero, List.map_map]
  congr 1
  apply List.map_congr_left
  intro j _
  exact ind_sgn q _
theorem zM_sq {q : Int} {m : Nat} (ag : ∀ r : Nat, r < q.toNat → sgn q r = sgnM m r) {v : Nat} (h : v < q.toNat) : zM m v = 1 - sgn q v * sgn q v := by
  unfold zM
  rw [ag v h]
theorem sgn_nz {q : Int} {v : Int} (h : v ≠ 0) : sgn q v * sgn q v = 1 := by
  have := ind_sgn q v
  rw [if_neg h] at this
  omega
theorem FN_lin {q : Int} (hq : q ∈ primes) {b : Int} (c : Int) (h : b.fmod q ≠ 0) : FN q 0 b c = 1 := by
  obtain ⟨m, ag, _, _, _, h4, _⟩ := facts3 hq
  obtain ⟨q1, q2⟩ := prime_pos q hq
  obtain ⟨i, k, hi⟩ := inv_ok hq h
  obtain ⟨t, ht, tl⟩ := fmod_nat (n := c * i) q1
  obtain ⟨k2, hk2⟩ := fm_split q (c * i)
  rw [ht] at hk2
  have e3 : ((q.toNat : Nat) : Int) = q := Int.toNat_of_nonneg (by omega)
  have e : FN q 0 b c = sumR q.toNat fun j => (fun y : Nat => zM m y) ((j + t) % q.toNat) := (FN_sum q 0 b c).trans (sumR_congr fun j _ => by
    have w : (0 * (j : Int) * j + b * j + c).fmod q = (b * ((j : Int) + t)).fmod q := fm_congr (k := b * k2 - c * k) (by grind)
    show _ = zM m ((j + t) % q.toNat)
    rw [w, sgn_mul hq, zM_sq ag (Nat.mod_lt _ (by omega))]
    have e5 : ((((j + t) % q.toNat : Nat)) : Int) = ((j : Int) + t).fmod q := by
      rw [Int.fmod_eq_emod_of_nonneg _ (by omega), Int.natCast_emod, e3, Int.natCast_add]
    rw [e5]
    have := sgn_nz (q := q) h
    grind)
  rw [e, rot (F := fun y : Nat => zM m y) (by omega)]
  exact of_decide_eq_true h4
theorem complete {q : Int} (hq : q ∈ primes) {a : Int} (b c : Int) (h : a.fmod q ≠ 0) : ∃ (t d : Nat) (K1 K2 : Int), d < q.toNat ∧ b = 2 * a * t + q * K1 ∧ c = a * (t * t + d) + q * K2 := by
  obtain ⟨q1, q2⟩ := prime_pos q hq
  obtain ⟨hh, h2⟩ : ∃ hh, 2 * hh = q + 1 := ⟨(q + 1) / 2, (show ∀ q ∈ primes, 2 * ((q + 1) / 2) = q + 1 by decide) q hq⟩
  obtain ⟨i, k, hi⟩ := inv_ok hq h
  obtain ⟨t, ht, tl⟩ := fmod_nat (n := b * i * hh) q1
  obtain ⟨k0, hk0⟩ := fm_split q (b * i * hh)
  rw [ht] at hk0
  obtain ⟨d, hd', dl⟩ := fmod_nat (n := c * i - t * t) q1
  obtain ⟨k3, hk3⟩ := fm_split q (c * i - t * t)
  rw [hd'] at hk3
  exact ⟨t, d, _, _, dl, alg1 hi h2 hk0, alg2 hi hk3⟩
theorem FN_quad {q : Int} (hq : q ∈ primes) {a : Int} (b c : Int) (h : a.fmod q ≠ 0) : FN q a b c = 1 + sgn q ((b * b - 4 * a * c).fmod q) := by
  obtain ⟨m, ag, _, _, hz, _, _⟩ := facts3 hq
  obtain ⟨q1, q2⟩ := prime_pos q hq
  have e3 : ((q.toNat : Nat) : Int) = q := Int.toNat_of_nonneg (by omega)
  obtain ⟨t, d, K1, K2, dl, hb, hc⟩ := complete hq b c h
  have e : FN q a b c = sumR q.toNat fun j => (fun y : Nat => zM m ((y * y + d) % q.toNat)) ((j + t) % q.toNat) := (FN_sum q a b c).trans (sumR_congr fun j _ => by
    have w : (a * (j : Int) * j + b * j + c).fmod q = (a * (((j : Int) + t) * (j + t) + d)).fmod q := fm_congr (k := K1 * j + K2) (alg3 hb hc)
    show _ = zM m (((j + t) % q.toNat * ((j + t) % q.toNat) + d) % q.toNat)
    rw [w, sgn_mul hq, zM_sq ag (Nat.mod_lt _ (by omega))]
    have e5 : ((((j + t) % q.toNat * ((j + t) % q.toNat) + d) % q.toNat : Nat) : Int) = (((j : Int) + t) * (j + t) + d).fmod q := by
      rw [Int.fmod_eq_emod_of_nonneg _ (by omega), Int.natCast_emod, e3, Int.natCast_add, Int.natCast_mul, Int.natCast_emod, Int.natCast_add, e3]
      rw [Int.add_emod (((j : Int) + t) * (j + t)), Int.mul_emod ((j : Int) + t), ← Int.add_emod]
    rw [e5]
    have := sgn_nz (q := q) h
    grind)
  have mv : sumR q.toNat (fun y : Nat => zM m ((y * y + d) % q.toNat)) = 1 + sgnM m ((q.toNat - d) % q.toNat) := of_decide_eq_true (List.all_eq_true.mp hz d (List.mem_range.mpr dl))
  rw [e, rot (F := fun y : Nat => zM m ((y * y + d) % q.toNat)) (by omega), mv]
  congr 1
  have w2 : (b * b - 4 * a * c).fmod q = ((2 * a * (2 * a)) * (-(d : Int))).fmod q := fm_congr (k := 4 * a * t * K1 + q * K1 * K1 - 4 * a * K2) (by rw [hb, hc]; grind)
  have w3 : (-(d : Int)).fmod q = (((q.toNat - d) % q.toNat : Nat) : Int) := by
    rw [← fmod_cast q1]
    have : (-(d : Int)) = ((q.toNat - d : Nat) : Int) + q * (-1) := by omega
    exact fm_congr this
  have z2 : (2 * a).fmod q ≠ 0 := by
    intro z
    obtain ⟨hh, h2⟩ : ∃ hh, 2 * hh = q + 1 := ⟨(q + 1) / 2, (show ∀ q ∈ primes, 2 * ((q + 1) / 2) = q + 1 by decide) q hq⟩
    obtain ⟨l, hl⟩ := fm_split q (2 * a)
    rw [z, Int.zero_add] at hl
    have : a = 0 + q * (l * hh - a) := by grind
    apply h
    rw [fm_congr this, Int.zero_fmod]
  rw [w2, sgn_mul hq, sgn_mul hq, w3, ag _ (Nat.mod_lt _ (by omega)), sgn_nz z2, Int.one_mul]
theorem froots_ok {q : Int} (hq : q ∈ primes) (a b c : Int) (st : Sto) : fn_formula_roots [.int q, .int a, .int b, .int c] st = .ok (.int (FN q a b c)) st := by
  have ei : ini 4 [.int q, .int a, .int b, .int c] = [.val (.int q), .val (.int a), .val (.int b), .val (.int c)] := rfl
  refine v_fn (e' := [.val (.int q), .val (.int a), .val (.int b), .val (.int c)]) ?_
  rw [ei]
  unfold m_formula_roots
  simp only [v_ok, v_bnd, v_ret, v_eVar, v_bVar, v_fz, v_frz, v_up, v_fro, v_op2, v_op1, v_opN, v_pv2, v_pv1, v_pvN, v_pvf, v_pvn, v_pvt, v_pI, v_pB, v_d1, v_d2, v_od, v_od2, r_int, r_bl, r_non, r_str, r_lst, r_tup, r_fzl, r_rep, r_dic, r_nil, r_cons, v_seq, v_seqn, v_seqr, v_nil, v_sif, v_mif, v_ite, v_sret, v_sretN, v_set, v_setM, v_sl1, v_sl2, v_bl, v_blP, v_tru, v_truM, v_opt, v_chain, v_chP, v_and, v_or, v_not, v_eNot, v_eAnd, v_andD, v_eOr, v_orD, v_aNil, v_aCons, v_lNil, v_lCons, v_par, v_parM, v_setE, v_setN, v_oN, v_oP, v_part, v_slc, v_call, v_callK, v_for, v_seqI, v_it1, v_it2, v_it3, v_rng1, v_rng1M, v_rng2, v_rng2M, v_enu, v_enuM, v_rv, v_rvM, v_zp, v_zp1, v_lc, v_lr1, v_sti, v_app, v_popR, d_sub, d_add, d_neg, d_eq, d_ne, d_lt, d_le, d_gt, d_ge, d_int, d_len, d_lenT, d_isN, d_isNN, t_bl, List.getElem?_cons_zero, List.getElem?_cons_succ, List.set_cons_zero, List.set_cons_succ, List.length_cons, List.length_nil, if_true, if_false, Bool.false_eq_true, v_cnt, ca4 (rests_ok hq a b c _), v_chk, d_cnt]
  rfl
theorem own_found_ok {q : Int} (hq : q ∈ primes) (a b c : Int) (st : Sto) : fn__law_own_found [.int q, .lst [.int a, .int b, .int c]] st = .ok (.int (FN q a b c)) st := by
  obtain ⟨q1, q2⟩ := prime_pos q hq
  have q0 : q ≠ 0 := by omega
  have ei : ini 6 [.int q, .lst [.int a, .int b, .int c]] = [.val (.int q), .val (.lst [.int a, .int b, .int c]), .un, .un, .un, .un] := rfl
  have hc := lcF (e0 := [.val (.int q), .val (.lst [.int a, .int b, .int c]), .val (.int a), .val (.int b), .val (.int c), .un]) (i := 5) (sl := .un) (s := st) (f := fun _ => .int 1) (p := fun x => match x with | .int k => decide ((a * k * k + b * k + c).fmod q = 0) | _ => false) (ds := rangeD 0 q.toNat) (elt := ret (D.int 1)) (tst := (mBl (mOp2 dEq (fz (mOp2 dMod (fz (mOpN dInt (aCons (fz (mOp2 dAdd (fz (mOp2 dAdd (fz (mOp2 dMul (fz (mOp2 dMul (bVar 2) (bVar 5))) (bVar 5))) (fz (mOp2 dMul (bVar 3) (bVar 5))))) (bVar 4))) aNil))) (bVar 0))) (ret (D.int 0))))) rfl fun x hx => by
    obtain ⟨k, rfl, k1, k2⟩ := mem_rangeD hx
    have mk : ∀ i, dMul (.int i) (.int k) = pI (i * k) := fun i => d_mul (mulSR (by omega) (by omega))
    refine ⟨?_, fun _ => ?_⟩ <;> simp only [v_ok, v_bnd, v_ret, v_eVar, v_bVar, v_fz, v_frz, v_up, v_fro, v_op2, v_op1, v_opN, v_pv2, v_pv1, v_pvN, v_pvf, v_pvn, v_pvt, v_pI, v_pB, v_d1, v_d2, v_od, v_od2, r_int, r_bl, r_non, r_str, r_lst, r_tup, r_fzl, r_rep, r_dic, r_nil, r_cons, v_seq, v_seqn, v_seqr, v_nil, v_sif, v_mif, v_ite, v_sret, v_sretN, v_set, v_setM, v_sl1, v_sl2, v_bl, v_blP, v_tru, v_truM, v_opt, v_chain, v_chP, v_and, v_or, v_not, v_eNot, v_eAnd, v_andD, v_eOr, v_orD, v_aNil, v_aCons, v_lNil, v_lCons, v_par, v_parM, v_setE, v_setN, v_oN, v_oP, v_part, v_slc, v_call, v_callK, v_for, v_seqI, v_it1, v_it2, v_it3, v_rng1, v_rng1M, v_rng2, v_rng2M, v_enu, v_enuM, v_rv, v_rvM, v_zp, v_zp1, v_lc, v_lr1, v_sti, v_app, v_popR, d_sub, d_add, d_neg, d_eq, d_ne, d_lt, d_le, d_gt, d_ge, d_int, d_len, d_lenT, d_isN, d_isNN, t_bl, List.getElem?_cons_zero, List.getElem?_cons_succ, List.set_cons_zero, List.set_cons_succ, List.length_cons, List.length_nil, if_true, if_false, Bool.false_eq_true, mk, d_mod q0]
  have hc2 := v_lcP (ds := rangeD 0 q.toNat) (vs := [5]) rfl (by rw [rangeD_len]; exact lim_le (by omega)) hc
  have hl : ((((rangeD 0 q.toNat).filter fun x => match x with | .int k => decide ((a * k * k + b * k + c).fmod q = 0) | _ => false).map fun _ => D.int 1).length : Int) = FN q a b c := by
    unfold FN vals rangeD
    rw [List.length_map, ← List.countP_eq_length_filter, List.countP_map]
    unfold List.count
    rw [List.countP_map]
    congr 1
    apply List.countP_congr
    intro j _
    show decide ((a * (0 + (j : Int)) * (0 + (j : Int)) + b * (0 + (j : Int)) + c).fmod q = 0) = true ↔ ((a * j * j + b * j + c).fmod q == 0) = true
    rw [Int.zero_add]
    simp
  refine v_fn (e' := [.val (.int q), .val (.lst [.int a, .int b, .int c]), .val (.int a), .val (.int b), .val (.int c), .un]) ?_
  rw [ei]
  unfold m__law_own_found
  simp only [v_ok, v_bnd, v_ret, v_eVar, v_bVar, v_fz, v_frz, v_up, v_fro, v_op2, v_op1, v_opN, v_pv2, v_pv1, v_pvN, v_pvf, v_pvn, v_pvt, v_pI, v_pB, v_d1, v_d2, v_od, v_od2, r_int, r_bl, r_non, r_str, r_lst, r_tup, r_fzl, r_rep, r_dic, r_nil, r_cons, v_seq, v_seqn, v_seqr, v_nil, v_sif, v_mif, v_ite, v_sret, v_sretN, v_set, v_setM, v_sl1, v_sl2, v_bl, v_blP, v_tru, v_truM, v_opt, v_chain, v_chP, v_and, v_or, v_not, v_eNot, v_eAnd, v_andD, v_eOr, v_orD, v_aNil, v_aCons, v_lNil, v_lCons, v_par, v_parM, v_setE, v_setN, v_oN, v_oP, v_part, v_slc, v_call, v_callK, v_for, v_seqI, v_it1, v_it2, v_it3, v_rng1, v_rng1M, v_rng2, v_rng2M, v_enu, v_enuM, v_rv, v_rvM, v_zp, v_zp1, v_lc, v_lr1, v_sti, v_app, v_popR, d_sub, d_add, d_neg, d_eq, d_ne, d_lt, d_le, d_gt, d_ge, d_int, d_len, d_lenT, d_isN, d_isNN, t_bl, List.getElem?_cons_zero, List.getElem?_cons_succ, List.set_cons_zero, List.set_cons_succ, List.length_cons, List.length_nil, if_true, if_false, Bool.false_eq_true, v_asg, tg3, rngB_of (show (-1000000000 : Int) ≤ q by omega) (by omega), hc2, hl]
theorem sh_FN {q : Int} (hq : q ∈ primes) (a b c : Int) : shI (FN q a b c) = true := by
  obtain ⟨q1, q2⟩ := prime_pos q hq
  have : (vals q a b c).count 0 ≤ (vals q a b c).length := List.count_le_length
  have hl : (vals q a b c).length = q.toNat := by unfold vals; rw [List.length_map, List.length_range]
  exact shI_of (by unfold FN; omega) (by unfold FN; omega)
theorem FN_const {q : Int} (hq : q ∈ primes) {c : Int} (c1 : 0 ≤ c) (c2 : c < q) : FN q 0 0 c = if 0 < c then 0 else q := by
  obtain ⟨q1, q2⟩ := prime_pos q hq
  have e3 : ((q.toNat : Nat) : Int) = q := Int.toNat_of_nonneg (by omega)
  have e : FN q 0 0 c = sumR q.toNat fun _ => 1 - sgn q c * sgn q c := (FN_sum q 0 0 c).trans (sumR_congr fun j _ => by
    rw [Int.zero_mul, Int.zero_mul, Int.add_zero, Int.zero_add, small_fmod c1 c2])
  rw [e, sumR_const, e3, ← ind_sgn]
  by_cases h : 0 < c
  · rw [if_pos h, if_neg (by omega), Int.mul_zero]
  · rw [if_neg h, if_pos (by omega), Int.mul_one]
end R83
namespace R83
open PySem PD
theorem found_ok {q : Int} (hq : q ∈ primes) (a b c : Int) (nm : Bool) (st : Sto) : fn__law_are_found_right [.int q, .lst [.int a, .int b, .int c], .bl nm] st = .ok (.bl true) st := by
  obtain ⟨q1, q2⟩ := prime_pos q hq
  have q0 : q ≠ 0 := by omega
  obtain ⟨a1, a2⟩ := fmod_rng q1 a
  obtain ⟨b1, b2⟩ := fmod_rng q1 b
  obtain ⟨c1, c2⟩ := fmod_rng q1 c
  have ei : ini 12 [.int q, .lst [.int a, .int b, .int c], .bl nm] = [.val (.int q), .val (.lst [.int a, .int b, .int c]), .val (.bl nm), .un, .un, .un, .un, .un, .un, .un, .un, .un] := rfl
  have hc := lc1 (e0 := [.val (.int q), .val (.lst [.int a, .int b, .int c]), .val (.bl nm), .val (.int a), .val (.int b), .val (.int c), .un, .un, .un, .un, .un, .un]) (i := 7) (sl := .un) (s := st) (f := fun x => match x with | .int k => .int (k.fmod q) | d => d) (ds := [.int a, .int b, .int c]) (elt := (fz (mOp2 dMod (fz (mOpN dInt (aCons (bVar 7) aNil))) (bVar 0)))) rfl fun x hx => by
    simp only [List.mem_cons, List.not_mem_nil, or_false] at hx
    rcases hx with h | h | h <;> subst h <;> simp only [v_ok, v_bnd, v_ret, v_eVar, v_bVar, v_fz, v_frz, v_up, v_fro, v_op2, v_op1, v_opN, v_pv2, v_pv1, v_pvN, v_pvf, v_pvn, v_pvt, v_pI, v_pB, v_d1, v_d2, v_od, v_od2, r_int, r_bl, r_non, r_str, r_lst, r_tup, r_fzl, r_rep, r_dic, r_nil, r_cons, v_seq, v_seqn, v_seqr, v_nil, v_sif, v_mif, v_ite, v_sret, v_sretN, v_set, v_setM, v_sl1, v_sl2, v_bl, v_blP, v_tru, v_truM, v_opt, v_chain, v_chP, v_and, v_or, v_not, v_eNot, v_eAnd, v_andD, v_eOr, v_orD, v_aNil, v_aCons, v_lNil, v_lCons, v_par, v_parM, v_setE, v_setN, v_oN, v_oP, v_part, v_slc, v_call, v_callK, v_for, v_seqI, v_it1, v_it2, v_it3, v_rng1, v_rng1M, v_rng2, v_rng2M, v_enu, v_enuM, v_rv, v_rvM, v_zp, v_zp1, v_lc, v_lr1, v_sti, v_app, v_popR, d_sub, d_add, d_neg, d_eq, d_ne, d_lt, d_le, d_gt, d_ge, d_int, d_len, d_lenT, d_isN, d_isNN, t_bl, List.getElem?_cons_zero, List.getElem?_cons_succ, List.set_cons_zero, List.set_cons_succ, List.length_cons, List.length_nil, if_true, if_false, Bool.false_eq_true, d_mod q0]
  have hc2 := v_lcP (ds := [.int a, .int b, .int c]) (vs := [7]) rfl (lim_le (show 3 ≤ 1000000 by decide)) hc
  simp only [List.map_cons, List.map_nil] at hc2
  have ow := fun st => own_found_ok hq (a.fmod q) (b.fmod q) (c.fmod q) st
  have fr := fun st => froots_ok hq a b c st
  have eF : FN q (a.fmod q) (b.fmod q) (c.fmod q) = FN q a b c := by unfold FN; rw [vals_rest]
  have v1 := FN_lin hq (b := b.fmod q) (c.fmod q)
  have v2 := FN_const hq c1 c2
  have v3 := FN_quad hq (a := a.fmod q) (b.fmod q) (c.fmod q)
  rw [small_fmod b1 b2] at v1
  rw [small_fmod a1 a2] at v3
  have sF := sh_FN hq a b c
  rw [eF] at ow v3
  generalize FN q a b c = F at *
  generalize a.fmod q = A at *
  generalize b.fmod q = B at *
  generalize c.fmod q = C at *
  have sm1 := fun st => same_ok (d := .int F) st (lv_of (atom_int sF)) (fun _ z => by cases z)
  have i0 : ∀ x y z : D, dIx (.lst [x, y, z]) (.int 0) = some (.fro x) := fun _ _ _ => rfl
  have i1 : ∀ x y z : D, dIx (.lst [x, y, z]) (.int 1) = some (.fro y) := fun _ _ _ => rfl
  have i2 : ∀ x y z : D, dIx (.lst [x, y, z]) (.int 2) = some (.fro z) := fun _ _ _ => rfl
  have pk : ∀ x y z w : D, pick [3, 2, 1, 0] [x, y, z, w] = [w, z, y, x] := fun _ _ _ _ => rfl
  have p1 : (sAsg (eVar 1) (tgT 3 (tgCons (tgN 3) (tgCons (tgN 4) (tgCons (tgN 5) tgNil))))) [.val (.int q), .val (.lst [.int a, .int b, .int c]), .val (.bl nm), .un, .un, .un, .un, .un, .un, .un, .un, .un] st = .ok .nx [.val (.int q), .val (.lst [.int a, .int b, .int c]), .val (.bl nm), .val (.int a), .val (.int b), .val (.int c), .un, .un, .un, .un, .un, .un] st := by simp only [v_ok, v_bnd, v_ret, v_eVar, v_bVar, v_fz, v_frz, v_up, v_fro, v_op2, v_op1, v_opN, v_pv2, v_pv1, v_pvN, v_pvf, v_pvn, v_pvt, v_pI, v_pB, v_d1, v_d2, v_od, v_od2, r_int, r_bl, r_non, r_str, r_lst, r_tup, r_fzl, r_rep, r_dic, r_nil, r_cons, v_seq, v_seqn, v_seqr, v_nil, v_sif, v_mif, v_ite, v_sret, v_sretN, v_set, v_setM, v_sl1, v_sl2, v_bl, v_blP, v_tru, v_truM, v_opt, v_chain, v_chP, v_and, v_or, v_not, v_eNot, v_eAnd, v_andD, v_eOr, v_orD, v_aNil, v_aCons, v_lNil, v_lCons, v_par, v_parM, v_setE, v_setN, v_oN, v_oP, v_part, v_slc, v_call, v_callK, v_for, v_seqI, v_it1, v_it2, v_it3, v_rng1, v_rng1M, v_rng2, v_rng2M, v_enu, v_enuM, v_rv, v_rvM, v_zp, v_zp1, v_lc, v_lr1, v_sti, v_app, v_popR, d_sub, d_add, d_neg, d_eq, d_ne, d_lt, d_le, d_gt, d_ge, d_int, d_len, d_lenT, d_isN, d_isNN, t_bl, List.getElem?_cons_zero, List.getElem?_cons_succ, List.set_cons_zero, List.set_cons_succ, List.length_cons, List.length_nil, if_true, if_false, Bool.false_eq_true, v_asg, tg3]
  have p2 : (sSet 6 (pLc (iSeq (eVar 1)) (tgN 7) tstT (fz (mOp2 dMod (fz (mOpN dInt (aCons (bVar 7) aNil))) (bVar 0))) [7])) [.val (.int q), .val (.lst [.int a, .int b, .int c]), .val (.bl nm), .val (.int a), .val (.int b), .val (.int c), .un, .un, .un, .un, .un, .un] st = .ok .nx [.val (.int q), .val (.lst [.int a, .int b, .int c]), .val (.bl nm), .val (.int a), .val (.int b), .val (.int c), .own (.lst [.int A, .int B, .int C]), .un, .un, .un, .un, .un] st := by simp only [v_ok, v_bnd, v_ret, v_eVar, v_bVar, v_fz, v_frz, v_up, v_fro, v_op2, v_op1, v_opN, v_pv2, v_pv1, v_pvN, v_pvf, v_pvn, v_pvt, v_pI, v_pB, v_d1, v_d2, v_od, v_od2, r_int, r_bl, r_non, r_str, r_lst, r_tup, r_fzl, r_rep, r_dic, r_nil, r_cons, v_seq, v_seqn, v_seqr, v_nil, v_sif, v_mif, v_ite, v_sret, v_sretN, v_set, v_setM, v_sl1, v_sl2, v_bl, v_blP, v_tru, v_truM, v_opt, v_chain, v_chP, v_and, v_or, v_not, v_eNot, v_eAnd, v_andD, v_eOr, v_orD, v_aNil, v_aCons, v_lNil, v_lCons, v_par, v_parM, v_setE, v_setN, v_oN, v_oP, v_part, v_slc, v_call, v_callK, v_for, v_seqI, v_it1, v_it2, v_it3, v_rng1, v_rng1M, v_rng2, v_rng2M, v_enu, v_enuM, v_rv, v_rvM, v_zp, v_zp1, v_lc, v_lr1, v_sti, v_app, v_popR, d_sub, d_add, d_neg, d_eq, d_ne, d_lt, d_le, d_gt, d_ge, d_int, d_len, d_lenT, d_isN, d_isNN, t_bl, List.getElem?_cons_zero, List.getElem?_cons_succ, List.set_cons_zero, List.set_cons_succ, List.length_cons, List.length_nil, if_true, if_false, Bool.false_eq_true, hc2]
  have p3 : (sSet 8 (up (eCall 2 fn__law_own_found (aCons (eVar 0) (aCons (eVar 6) aNil))))) [.val (.int q), .val (.lst [.int a, .int b, .int c]), .val (.bl nm), .val (.int a), .val (.int b), .val (.int c), .own (.lst [.int A, .int B, .int C]), .un, .un, .un, .un, .un] st = .ok .nx [.val (.int q), .val (.lst [.int a, .int b, .int c]), .val (.bl nm), .val (.int a), .val (.int b), .val (.int c), .val (.lst [.int A, .int B, .int C]), .un, .val (.int F), .un, .un, .un] st := by simp only [v_ok, v_bnd, v_ret, v_eVar, v_bVar, v_fz, v_frz, v_up, v_fro, v_op2, v_op1, v_opN, v_pv2, v_pv1, v_pvN, v_pvf, v_pvn, v_pvt, v_pI, v_pB, v_d1, v_d2, v_od, v_od2, r_int, r_bl, r_non, r_str, r_lst, r_tup, r_fzl, r_rep, r_dic, r_nil, r_cons, v_seq, v_seqn, v_seqr, v_nil, v_sif, v_mif, v_ite, v_sret, v_sretN, v_set, v_setM, v_sl1, v_sl2, v_bl, v_blP, v_tru, v_truM, v_opt, v_chain, v_chP, v_and, v_or, v_not, v_eNot, v_eAnd, v_andD, v_eOr, v_orD, v_aNil, v_aCons, v_lNil, v_lCons, v_par, v_parM, v_setE, v_setN, v_oN, v_oP, v_part, v_slc, v_call, v_callK, v_for, v_seqI, v_it1, v_it2, v_it3, v_rng1, v_rng1M, v_rng2, v_rng2M, v_enu, v_enuM, v_rv, v_rvM, v_zp, v_zp1, v_lc, v_lr1, v_sti, v_app, v_popR, d_sub, d_add, d_neg, d_eq, d_ne, d_lt, d_le, d_gt, d_ge, d_int, d_len, d_lenT, d_isN, d_isNN, t_bl, List.getElem?_cons_zero, List.getElem?_cons_succ, List.set_cons_zero, List.set_cons_succ, List.length_cons, List.length_nil, if_true, if_false, Bool.false_eq_true, ca2 (ow _)]
  have p4 : (sSet 9 (up (mIf (mTru (bVar 2)) (eCallK 4 fn_formula_roots 4 [3, 2, 1, 0] (aCons (eVar 5) (aCons (eVar 4) (aCons (eVar 3) (aCons (eVar 0) aNil))))) (eCall 4 fn_formula_roots (aCons (eVar 0) (aCons (eVar 3) (aCons (eVar 4) (aCons (eVar 5) aNil)))))))) [.val (.int q), .val (.lst [.int a, .int b, .int c]), .val (.bl nm), .val (.int a), .val (.int b), .val (.int c), .val (.lst [.int A, .int B, .int C]), .un, .val (.int F), .un, .un, .un] st = .ok .nx [.val (.int q), .val (.lst [.int a, .int b, .int c]), .val (.bl nm), .val (.int a), .val (.int b), .val (.int c), .val (.lst [.int A, .int B, .int C]), .un, .val (.int F), .val (.int F), .un, .un] st := by cases nm <;> simp only [v_ok, v_bnd, v_ret, v_eVar, v_bVar, v_fz, v_frz, v_up, v_fro, v_op2, v_op1, v_opN, v_pv2, v_pv1, v_pvN, v_pvf, v_pvn, v_pvt, v_pI, v_pB, v_d1, v_d2, v_od, v_od2, r_int, r_bl, r_non, r_str, r_lst, r_tup, r_fzl, r_rep, r_dic, r_nil, r_cons, v_seq, v_seqn, v_seqr, v_nil, v_sif, v_mif, v_ite, v_sret, v_sretN, v_set, v_setM, v_sl1, v_sl2, v_bl, v_blP, v_tru, v_truM, v_opt, v_chain, v_chP, v_and, v_or, v_not, v_eNot, v_eAnd, v_andD, v_eOr, v_orD, v_aNil, v_aCons, v_lNil, v_lCons, v_par, v_parM, v_setE, v_setN, v_oN, v_oP, v_part, v_slc, v_call, v_callK, v_for, v_seqI, v_it1, v_it2, v_it3, v_rng1, v_rng1M, v_rng2, v_rng2M, v_enu, v_enuM, v_rv, v_rvM, v_zp, v_zp1, v_lc, v_lr1, v_sti, v_app, v_popR, d_sub, d_add, d_neg, d_eq, d_ne, d_lt, d_le, d_gt, d_ge, d_int, d_len, d_lenT, d_isN, d_isNN, t_bl, List.getElem?_cons_zero, List.getElem?_cons_succ, List.set_cons_zero, List.set_cons_succ, List.length_cons, List.length_nil, if_true, if_false, Bool.false_eq_true, ca4 (fr _), k4, pk]
  have p5 : (sIf (mNot (mTru (eCall 2 fn__law_same (aCons (eVar 9) (aCons (eVar 8) aNil))))) (sSeq (sRet (ret (D.bl false))) sNil) sNil) [.val (.int q), .val (.lst [.int a, .int b, .int c]), .val (.bl nm), .val (.int a), .val (.int b), .val (.int c), .val (.lst [.int A, .int B, .int C]), .un, .val (.int F), .val (.int F), .un, .un] st = .ok .nx [.val (.int q), .val (.lst [.int a, .int b, .int c]), .val (.bl nm), .val (.int a), .val (.int b), .val (.int c), .val (.lst [.int A, .int B, .int C]), .un, .val (.int F), .val (.int F), .un, .un] st := by simp -implicitDefEqProofs only [v_ok, v_bnd, v_ret, v_eVar, v_bVar, v_fz, v_frz, v_up, v_fro, v_op2, v_op1, v_opN, v_pv2, v_pv1, v_pvN, v_pvf, v_pvn, v_pvt, v_pI, v_pB, v_d1, v_d2, v_od, v_od2, r_int, r_bl, r_non, r_str, r_lst, r_tup, r_fzl, r_rep, r_dic, r_nil, r_cons, v_seq, v_seqn, v_seqr, v_nil, v_sif, v_mif, v_ite, v_sret, v_sretN, v_set, v_setM, v_sl1, v_sl2, v_bl, v_blP, v_tru, v_truM, v_opt, v_chain, v_chP, v_and, v_or, v_not, v_eNot, v_eAnd, v_andD, v_eOr, v_orD, v_aNil, v_aCons, v_lNil, v_lCons, v_par, v_parM, v_setE, v_setN, v_oN, v_oP, v_part, v_slc, v_call, v_callK, v_for, v_seqI, v_it1, v_it2, v_it3, v_rng1, v_rng1M, v_rng2, v_rng2M, v_enu, v_enuM, v_rv, v_rvM, v_zp, v_zp1, v_lc, v_lr1, v_sti, v_app, v_popR, d_sub, d_add, d_neg, d_eq, d_ne, d_lt, d_le, d_gt, d_ge, d_int, d_len, d_lenT, d_isN, d_isNN, t_bl, List.getElem?_cons_zero, List.getElem?_cons_succ, List.set_cons_zero, List.set_cons_succ, List.length_cons, List.length_nil, if_true, if_false, Bool.false_eq_true, ca2 (sm1 _), Bool.not_true]
  have fin : ∀ e', (sSeq (sIf (mBl (mOp2 dEq (fz (mOp2 dIx (bVar 6) (ret (D.int 0)))) (ret (D.int 0)))) (sSeq (sRet (fz (mOp2 dEq (bVar 9) (mIf (mBl (mOp2 dGt (fz (mOp2 dIx (bVar 6) (ret (D.int 1)))) (ret (D.int 0)))) (ret (D.int 1)) (mIf (mBl (mOp2 dGt (fz (mOp2 dIx (bVar 6) (ret (D.int 2)))) (ret (D.int 0)))) (ret (D.int 0)) (eVar 0)))))) sNil) sNil) (sSeq (sSet 10 (mOp2 dSub (fz (mOp2 dMul (fz (mOp2 dIx (bVar 6) (ret (D.int 1)))) (fz (mOp2 dIx (bVar 6) (ret (D.int 1)))))) (fz (mOp2 dMul (fz (mOp2 dMul (ret (D.int 4)) (fz (mOp2 dIx (bVar 6) (ret (D.int 0)))))) (fz (mOp2 dIx (bVar 6) (ret (D.int 2)))))))) (sSeq (sSet 11 (mOp2 dIx (eCall 1 fn__law_signs (aCons (eVar 0) aNil)) (fz (mOp2 dMod (fz (mOpN dInt (aCons (bVar 10) aNil))) (bVar 0))))) (sSeq (sRet (eAnd (fz (mOp2 dEq (bVar 9) (fz (mOp2 dAdd (ret (D.int 1)) (bVar 11))))) (eCall 2 fn__law_same (aCons (eCall 2 fn_square_sign (aCons (eVar 0) (aCons (eVar 10) aNil))) (aCons (eVar 11) aNil))))) sNil)))) [.val (.int q), .val (.lst [.int a, .int b, .int c]), .val (.bl nm), .val (.int a), .val (.int b), .val (.int c), .val (.lst [.int A, .int B, .int C]), .un, .val (.int F), .val (.int F), .un, .un] st = .ok (.rt (.bl true)) e' st → fn__law_are_found_right [.int q, .lst [.int a, .int b, .int c], .bl nm] st = .ok (.bl true) st := fun e' h => by
    refine v_fn (e' := e') ?_
    rw [ei]
    unfold m__law_are_found_right
    rw [v_seq, p1, v_ok, v_seqn, v_seq, p2, v_ok, v_seqn, v_seq, p3, v_ok, v_seqn, v_seq, p4, v_ok, v_seqn, v_seq, p5, v_ok, v_seqn, h]
  by_cases hA : A = 0
  · have eF0 : FN q 0 B C = F := by rw [← hA]; exact eF
    have dA : decide (A = 0) = true := decide_eq_true hA
    have hF : F = if 0 < B then 1 else if 0 < C then 0 else q := by
      by_cases hB : 0 < B
      · rw [if_pos hB, ← eF0]; exact v1 (by omega)
      · rw [if_neg hB]
        have : B = 0 := by omega
        subst this
        rw [← eF0]; exact v2
    refine fin [.val (.int q), .val (.lst [.int a, .int b, .int c]), .val (.bl nm), .val (.int a), .val (.int b), .val (.int c), .val (.lst [.int A, .int B, .int C]), .un, .val (.int F), .val (.int F), .un, .un] ?_
    by_cases hB : 0 < B
    · rw [if_pos hB] at hF
      simp only [v_ok, v_bnd, v_ret, v_eVar, v_bVar, v_fz, v_frz, v_up, v_fro, v_op2, v_op1, v_opN, v_pv2, v_pv1, v_pvN, v_pvf, v_pvn, v_pvt, v_pI, v_pB, v_d1, v_d2, v_od, v_od2, r_int, r_bl, r_non, r_str, r_lst, r_tup, r_fzl, r_rep, r_dic, r_nil, r_cons, v_seq, v_seqn, v_seqr, v_nil, v_sif, v_mif, v_ite, v_sret, v_sretN, v_set, v_setM, v_sl1, v_sl2, v_bl, v_blP, v_tru, v_truM, v_opt, v_chain, v_chP, v_and, v_or, v_not, v_eNot, v_eAnd, v_andD, v_eOr, v_orD, v_aNil, v_aCons, v_lNil, v_lCons, v_par, v_parM, v_setE, v_setN, v_oN, v_oP, v_part, v_slc, v_call, v_callK, v_for, v_seqI, v_it1, v_it2, v_it3, v_rng1, v_rng1M, v_rng2, v_rng2M, v_enu, v_enuM, v_rv, v_rvM, v_zp, v_zp1, v_lc, v_lr1, v_sti, v_app, v_popR, d_sub, d_add, d_neg, d_eq, d_ne, d_lt, d_le, d_gt, d_ge, d_int, d_len, d_lenT, d_isN, d_isNN, t_bl, List.getElem?_cons_zero, List.getElem?_cons_succ, List.set_cons_zero, List.set_cons_succ, List.length_cons, List.length_nil, if_true, if_false, Bool.false_eq_true, i0, i1, i2, Bool.not_true, decide_true, dA, hB, decide_eq_true hF]
    · rw [if_neg hB] at hF
      by_cases hC : 0 < C
      · rw [if_pos hC] at hF
        simp only [v_ok, v_bnd, v_ret, v_eVar, v_bVar, v_fz, v_frz, v_up, v_fro, v_op2, v_op1, v_opN, v_pv2, v_pv1, v_pvN, v_pvf, v_pvn, v_pvt, v_pI, v_pB, v_d1, v_d2, v_od, v_od2, r_int, r_bl, r_non, r_str, r_lst, r_tup, r_fzl, r_rep, r_dic, r_nil, r_cons, v_seq, v_seqn, v_seqr, v_nil, v_sif, v_mif, v_ite, v_sret, v_sretN, v_set, v_setM, v_sl1, v_sl2, v_bl, v_blP, v_tru, v_truM, v_opt, v_chain, v_chP, v_and, v_or, v_not, v_eNot, v_eAnd, v_andD, v_eOr, v_orD, v_aNil, v_aCons, v_lNil, v_lCons, v_par, v_parM, v_setE, v_setN, v_oN, v_oP, v_part, v_slc, v_call, v_callK, v_for, v_seqI, v_it1, v_it2, v_it3, v_rng1, v_rng1M, v_rng2, v_rng2M, v_enu, v_enuM, v_rv, v_rvM, v_zp, v_zp1, v_lc, v_lr1, v_sti, v_app, v_popR, d_sub, d_add, d_neg, d_eq, d_ne, d_lt, d_le, d_gt, d_ge, d_int, d_len, d_lenT, d_isN, d_isNN, t_bl, List.getElem?_cons_zero, List.getElem?_cons_succ, List.set_cons_zero, List.set_cons_succ, List.length_cons, List.length_nil, if_true, if_false, Bool.false_eq_true, i0, i1, i2, Bool.not_true, decide_true, decide_false, dA, hB, hC, decide_eq_true hF]
      · rw [if_neg hC] at hF
        simp only [v_ok, v_bnd, v_ret, v_eVar, v_bVar, v_fz, v_frz, v_up, v_fro, v_op2, v_op1, v_opN, v_pv2, v_pv1, v_pvN, v_pvf, v_pvn, v_pvt, v_pI, v_pB, v_d1, v_d2, v_od, v_od2, r_int, r_bl, r_non, r_str, r_lst, r_tup, r_fzl, r_rep, r_dic, r_nil, r_cons, v_seq, v_seqn, v_seqr, v_nil, v_sif, v_mif, v_ite, v_sret, v_sretN, v_set, v_setM, v_sl1, v_sl2, v_bl, v_blP, v_tru, v_truM, v_opt, v_chain, v_chP, v_and, v_or, v_not, v_eNot, v_eAnd, v_andD, v_eOr, v_orD, v_aNil, v_aCons, v_lNil, v_lCons, v_par, v_parM, v_setE, v_setN, v_oN, v_oP, v_part, v_slc, v_call, v_callK, v_for, v_seqI, v_it1, v_it2, v_it3, v_rng1, v_rng1M, v_rng2, v_rng2M, v_enu, v_enuM, v_rv, v_rvM, v_zp, v_zp1, v_lc, v_lr1, v_sti, v_app, v_popR, d_sub, d_add, d_neg, d_eq, d_ne, d_lt, d_le, d_gt, d_ge, d_int, d_len, d_lenT, d_isN, d_isNN, t_bl, List.getElem?_cons_zero, List.getElem?_cons_succ, List.set_cons_zero, List.set_cons_succ, List.length_cons, List.length_nil, if_true, if_false, Bool.false_eq_true, i0, i1, i2, Bool.not_true, decide_true, decide_false, dA, hB, hC, decide_eq_true hF]
  · have hF := v3 hA
    have m1 : dMul (.int B) (.int B) = pI (B * B) := d_mul (mulSL (by omega) (by omega))
    have m2 : dMul (.int 4) (.int A) = pI (4 * A) := d_mul (mulSL (by omega) (by omega))
    have m3 : dMul (.int (4 * A)) (.int C) = pI (4 * A * C) := d_mul (mulSL (by omega) (by omega))
    have so := fun st => sign_ok (st := st) (q := q) (n := B * B - 4 * A * C) q1 (by omega)
    have si := sig_ix hq (B * B - 4 * A * C)
    have shs : shI (sgn q ((B * B - 4 * A * C).fmod q)) = true := by rcases sgn_cases q ((B * B - 4 * A * C).fmod q) with h | h | h <;> rw [h] <;> decide +kernel
    generalize hW : (B * B - 4 * A * C).fmod q = W at *
    generalize sgn q W = T at *
    have sm2 := fun st => same_ok (d := .int T) st (lv_of (atom_int shs)) (fun _ z => by cases z)
    refine fin [.val (.int q), .val (.lst [.int a, .int b, .int c]), .val (.bl nm), .val (.int a), .val (.int b), .val (.int c), .val (.lst [.int A, .int B, .int C]), .un, .val (.int F), .val (.int F), .val (.int (B * B - 4 * A * C)), .val (.int T)] ?_
    simp -implicitDefEqProofs only [v_ok, v_bnd, v_ret, v_eVar, v_bVar, v_fz, v_frz, v_up, v_fro, v_op2, v_op1, v_opN, v_pv2, v_pv1, v_pvN, v_pvf, v_pvn, v_pvt, v_pI, v_pB, v_d1, v_d2, v_od, v_od2, r_int, r_bl, r_non, r_str, r_lst, r_tup, r_fzl, r_rep, r_dic, r_nil, r_cons, v_seq, v_seqn, v_seqr, v_nil, v_sif, v_mif, v_ite, v_sret, v_sretN, v_set, v_setM, v_sl1, v_sl2, v_bl, v_blP, v_tru, v_truM, v_opt, v_chain, v_chP, v_and, v_or, v_not, v_eNot, v_eAnd, v_andD, v_eOr, v_orD, v_aNil, v_aCons, v_lNil, v_lCons, v_par, v_parM, v_setE, v_setN, v_oN, v_oP, v_part, v_slc, v_call, v_callK, v_for, v_seqI, v_it1, v_it2, v_it3, v_rng1, v_rng1M, v_rng2, v_rng2M, v_enu, v_enuM, v_rv, v_rvM, v_zp, v_zp1, v_lc, v_lr1, v_sti, v_app, v_popR, d_sub, d_add, d_neg, d_eq, d_ne, d_lt, d_le, d_gt, d_ge, d_int, d_len, d_lenT, d_isN, d_isNN, t_bl, List.getElem?_cons_zero, List.getElem?_cons_succ, List.set_cons_zero, List.set_cons_succ, List.length_cons, List.length_nil, if_true, if_false, Bool.false_eq_true, i0, i1, i2, Bool.not_true, decide_true, decide_false, hA, m1, m2, m3, ca1 (signs_tab q hq _), d_mod q0, hW, si, decide_eq_true hF, ca2 (so _), ca2 (sm2 _)]
end R83
namespace R83
open PySem PD
theorem eq_ints (l1 l2 : List Int) : ∃ b, dEq (.lst (l1.map D.int)) (.lst (l2.map D.int)) = pB b := by
  obtain ⟨a1, b1, c1⟩ := ints_py l1
  obtain ⟨a2, b2, c2⟩ := ints_py l2
  have e1 : toPy (.lst (l1.map D.int)) = some (.list (l1.map PyData.int)) := by simp [toPy, a1]
  have e2 : toPy (.lst (l2.map D.int)) = some (.list (l2.map PyData.int)) := by simp [toPy, a2]
  refine ⟨PyData.eqv (.list (l1.map PyData.int)) (.list (l2.map PyData.int)), ?_⟩
  show eqGen id (.lst (l1.map D.int)) (.lst (l2.map D.int)) = _
  unfold eqGen
  rw [e1, e2]
  have hs : okEq (.list (l1.map PyData.int)) (.list (l2.map PyData.int)) = true := by
    unfold okEq SeqAt.shaped
    simp [PyData.canLay0, PyData.depth, b1, c1, b2, c2]
  show (if okEq _ _ then pB (id _) else none) = _
  rw [if_pos hs]
  rfl
theorem eq_3 (a b c u v w : Int) : ∃ k, dEq (.lst [.int a, .int b, .int c]) (.lst [.int u, .int v, .int w]) = pB k := eq_ints [a, b, c] [u, v, w]
theorem small_prime {d : D} (h : d ∈ [D.int 3, .int 5, .int 7, .int 11, .int 13]) : ∃ q ∈ primes, d = .int q := by
  simp only [List.mem_cons, List.not_mem_nil, or_false] at h
  rcases h with h | h | h | h | h <;> exact ⟨_, by decide, h⟩
def isF (d : D) : Prop := ∃ a b c, d = D.lst [.int a, .int b, .int c]
theorem three {zs : List D} (al : All2 (fun _ y => ∃ k, y = D.int k) (rangeD 0 (3 : Int).toNat) zs) : ∃ a b c, zs = [D.int a, D.int b, D.int c] := by
  have er : rangeD 0 (3 : Int).toNat = [.int 0, .int 1, .int 2] := rfl
  rw [er] at al
  cases al with
  | cons r1 al =>
    cases al with
    | cons r2 al =>
      cases al with
      | cons r3 al =>
        cases al
        obtain ⟨y1, rfl⟩ := r1
        obtain ⟨y2, rfl⟩ := r2
        obtain ⟨y3, rfl⟩ := r3
        exact ⟨_, _, _, rfl⟩
theorem law_true : FnTrue 63 fn_law := by
  intro ns hns
  obtain ⟨s0, e0, hB⟩ := bag_ok hns
  obtain ⟨ys, s1, e1, yl, ym, hB⟩ := some_ok (xs := primesD) (many := 2) hB (by decide) (by decide) (by decide) (by decide)
  obtain ⟨sm, s2, e2, hsm, hB⟩ := pick_ok (xs := [D.int 3, .int 5, .int 7, .int 11, .int 13]) hB (show 0 < 5 by decide) (show 5 < 1000000 by decide)
  obtain ⟨p, hp, rfl⟩ := small_prime hsm
  obtain ⟨y0, y1, rfl⟩ : ∃ a b, ys = [a, b] := by
    match ys, yl with
    | [a, b], _ => exact ⟨a, b, rfl⟩
  obtain ⟨q, hq, rfl⟩ := prime_of (ym y0 (by simp))
  obtain ⟨r, hr, rfl⟩ := prime_of (ym y1 (by simp))
  obtain ⟨n1, s3, e3, _, _, hB⟩ := great_ok hB
  obtain ⟨kd, s4, e4, _, _, hB⟩ := draw_ok (b := 9) hB (by decide) (by decide)
  obtain ⟨a, b, c, s5, e5, hB⟩ := formula_ok (q := q) (kind := kd) hB hq
  have dn : ∀ i, dNeg (.int i) = pI (-i) := fun _ => rfl
  have l5 : (5 : Nat) ≤ lim := lim_le (by decide)
  have l6 : (6 : Nat) ≤ lim := lim_le (by decide)
  have l4 : (4 : Nat) ≤ lim := lim_le (by decide)
  have l3 : (3 : Nat) ≤ lim := lim_le (by decide)
  have l2 : (2 : Nat) ≤ lim := lim_le (by decide)
  have r9 : rngB 9 = true := by decide
  have r3 : rngB 3 = true := by decide
  obtain ⟨q1, q2⟩ := prime_pos q hq
  show ∃ st, fn_law [.fzl (ns.map D.int)] [] = .ok (.bl true) st
  generalize D.fzl (ns.map D.int) = S at e0 ⊢
  have p1 : (sSet 1 (up (eCall 1 fn__law_own_bag (aCons (eVar 0) aNil)))) [.val S, .un, .un, .un, .un, .un, .un, .un, .un, .un, .un, .un, .un, .un, .un, .un, .un, .un, .un] [] = .ok .nx [.val S, .val (.ref 0), .un, .un, .un, .un, .un, .un, .un, .un, .un, .un, .un, .un, .un, .un, .un, .un, .un] s0 := by simp -implicitDefEqProofs only [v_ok, v_bnd, v_ret, v_eVar, v_bVar, v_fz, v_frz, v_up, v_fro, v_op2, v_op1, v_opN, v_pv2, v_pv1, v_pvN, v_pvf, v_pvn, v_pvt, v_pI, v_pB, v_d1, v_d2, v_od, v_od2, r_int, r_bl, r_non, r_str, r_lst, r_tup, r_fzl, r_rep, r_dic, r_nil, r_cons, v_seq, v_seqn, v_seqr, v_nil, v_sif, v_mif, v_ite, v_sret, v_sretN, v_set, v_setM, v_sl1, v_sl2, v_bl, v_blP, v_tru, v_truM, v_opt, v_chain, v_chP, v_and, v_or, v_not, v_eNot, v_eAnd, v_andD, v_eOr, v_orD, v_aNil, v_aCons, v_lNil, v_lCons, v_par, v_parM, v_setE, v_setN, v_oN, v_oP, v_part, v_slc, v_call, v_callK, v_for, v_seqI, v_it1, v_it2, v_it3, v_rng1, v_rng1M, v_rng2, v_rng2M, v_enu, v_enuM, v_rv, v_rvM, v_zp, v_zp1, v_lc, v_lr1, v_sti, v_app, v_popR, d_sub, d_add, d_neg, d_eq, d_ne, d_lt, d_le, d_gt, d_ge, d_int, d_len, d_lenT, d_isN, d_isNN, t_bl, List.getElem?_cons_zero, List.getElem?_cons_succ, List.set_cons_zero, List.set_cons_succ, List.length_cons, List.length_nil, if_true, if_false, Bool.false_eq_true, ca1 e0]
  have p2 : (sPar [2, 3] (lCons (up (eCall 3 fn__law_some_primes (aCons (eVar 1) (aCons (eCall 0 fn__law_primes aNil) (aCons (ret (D.int 2)) aNil))))) (lCons (up (eCall 2 fn__law_pick (aCons (eVar 1) (aCons (fz (pLst (aCons (ret (D.int 3)) (aCons (ret (D.int 5)) (aCons (ret (D.int 7)) (aCons (ret (D.int 11)) (aCons (ret (D.int 13)) aNil))))))) aNil)))) lNil))) [.val S, .val (.ref 0), .un, .un, .un, .un, .un, .un, .un, .un, .un, .un, .un, .un, .un, .un, .un, .un, .un] s0 = .ok .nx [.val S, .val (.ref 0), .val (.lst [.int q, .int r]), .val (.int p), .un, .un, .un, .un, .un, .un, .un, .un, .un, .un, .un, .un, .un, .un, .un] s2 := by simp -implicitDefEqProofs only [v_ok, v_bnd, v_ret, v_eVar, v_bVar, v_fz, v_frz, v_up, v_fro, v_op2, v_op1, v_opN, v_pv2, v_pv1, v_pvN, v_pvf, v_pvn, v_pvt, v_pI, v_pB, v_d1, v_d2, v_od, v_od2, r_int, r_bl, r_non, r_str, r_lst, r_tup, r_fzl, r_rep, r_dic, r_nil, r_cons, v_seq, v_seqn, v_seqr, v_nil, v_sif, v_mif, v_ite, v_sret, v_sretN, v_set, v_setM, v_sl1, v_sl2, v_bl, v_blP, v_tru, v_truM, v_opt, v_chain, v_chP, v_and, v_or, v_not, v_eNot, v_eAnd, v_andD, v_eOr, v_orD, v_aNil, v_aCons, v_lNil, v_lCons, v_par, v_parM, v_setE, v_setN, v_oN, v_oP, v_part, v_slc, v_call, v_callK, v_for, v_seqI, v_it1, v_it2, v_it3, v_rng1, v_rng1M, v_rng2, v_rng2M, v_enu, v_enuM, v_rv, v_rvM, v_zp, v_zp1, v_lc, v_lr1, v_sti, v_app, v_popR, d_sub, d_add, d_neg, d_eq, d_ne, d_lt, d_le, d_gt, d_ge, d_int, d_len, d_lenT, d_isN, d_isNN, t_bl, List.getElem?_cons_zero, List.getElem?_cons_succ, List.set_cons_zero, List.set_cons_succ, List.length_cons, List.length_nil, if_true, if_false, Bool.false_eq_true, ca0 (primes_ok _), ca3 e1, ca2 e2, v_lst, l2, l3, l4, l5, l6, Nat.zero_add, Nat.reduceAdd]
  have p3 : (sAsg (eVar 2) (tgT 2 (tgCons (tgN 4) (tgCons (tgN 5) tgNil)))) [.val S, .val (.ref 0), .val (.lst [.int q, .int r]), .val (.int p), .un, .un, .un, .un, .un, .un, .un, .un, .un, .un, .un, .un, .un, .un, .un] s2 = .ok .nx [.val S, .val (.ref 0), .val (.lst [.int q, .int r]), .val (.int p), .val (.int q), .val (.int r), .un, .un, .un, .un, .un, .un, .un, .un, .un, .un, .un, .un, .un] s2 := by simp -implicitDefEqProofs only [v_ok, v_bnd, v_ret, v_eVar, v_bVar, v_fz, v_frz, v_up, v_fro, v_op2, v_op1, v_opN, v_pv2, v_pv1, v_pvN, v_pvf, v_pvn, v_pvt, v_pI, v_pB, v_d1, v_d2, v_od, v_od2, r_int, r_bl, r_non, r_str, r_lst, r_tup, r_fzl, r_rep, r_dic, r_nil, r_cons, v_seq, v_seqn, v_seqr, v_nil, v_sif, v_mif, v_ite, v_sret, v_sretN, v_set, v_setM, v_sl1, v_sl2, v_bl, v_blP, v_tru, v_truM, v_opt, v_chain, v_chP, v_and, v_or, v_not, v_eNot, v_eAnd, v_andD, v_eOr, v_orD, v_aNil, v_aCons, v_lNil, v_lCons, v_par, v_parM, v_setE, v_setN, v_oN, v_oP, v_part, v_slc, v_call, v_callK, v_for, v_seqI, v_it1, v_it2, v_it3, v_rng1, v_rng1M, v_rng2, v_rng2M, v_enu, v_enuM, v_rv, v_rvM, v_zp, v_zp1, v_lc, v_lr1, v_sti, v_app, v_popR, d_sub, d_add, d_neg, d_eq, d_ne, d_lt, d_le, d_gt, d_ge, d_int, d_len, d_lenT, d_isN, d_isNN, t_bl, List.getElem?_cons_zero, List.getElem?_cons_succ, List.set_cons_zero, List.set_cons_succ, List.length_cons, List.length_nil, if_true, if_false, Bool.false_eq_true, v_asg, v_asg2]
  have p4 : (sPar [6, 7] (lCons (up (eCall 1 fn__law_great (aCons (eVar 1) aNil))) (lCons (up (eCall 2 fn__law_draw (aCons (eVar 1) (aCons (ret (D.int 9)) aNil)))) lNil))) [.val S, .val (.ref 0), .val (.lst [.int q, .int r]), .val (.int p), .val (.int q), .val (.int r), .un, .un, .un, .un, .un, .un, .un, .un, .un, .un, .un, .un, .un] s2 = .ok .nx [.val S, .val (.ref 0), .val (.lst [.int q, .int r]), .val (.int p), .val (.int q), .val (.int r), .val (.int n1), .val (.int kd), .un, .un, .un, .un, .un, .un, .un, .un, .un, .un, .un] s4 := by simp -implicitDefEqProofs only [v_ok, v_bnd, v_ret, v_eVar, v_bVar, v_fz, v_frz, v_up, v_fro, v_op2, v_op1, v_opN, v_pv2, v_pv1, v_pvN, v_pvf, v_pvn, v_pvt, v_pI, v_pB, v_d1, v_d2, v_od, v_od2, r_int, r_bl, r_non, r_str, r_lst, r_tup, r_fzl, r_rep, r_dic, r_nil, r_cons, v_seq, v_seqn, v_seqr, v_nil, v_sif, v_mif, v_ite, v_sret, v_sretN, v_set, v_setM, v_sl1, v_sl2, v_bl, v_blP, v_tru, v_truM, v_opt, v_chain, v_chP, v_and, v_or, v_not, v_eNot, v_eAnd, v_andD, v_eOr, v_orD, v_aNil, v_aCons, v_lNil, v_lCons, v_par, v_parM, v_setE, v_setN, v_oN, v_oP, v_part, v_slc, v_call, v_callK, v_for, v_seqI, v_it1, v_it2, v_it3, v_rng1, v_rng1M, v_rng2, v_rng2M, v_enu, v_enuM, v_rv, v_rvM, v_zp, v_zp1, v_lc, v_lr1, v_sti, v_app, v_popR, d_sub, d_add, d_neg, d_eq, d_ne, d_lt, d_le, d_gt, d_ge, d_int, d_len, d_lenT, d_isN, d_isNN, t_bl, List.getElem?_cons_zero, List.getElem?_cons_succ, List.set_cons_zero, List.set_cons_succ, List.length_cons, List.length_nil, if_true, if_false, Bool.false_eq_true, ca1 e3, ca2 e4]
  have p5 : (sPar [8, 9] (lCons (up (eCall 3 fn__law_formula (aCons (eVar 1) (aCons (eVar 4) (aCons (eVar 7) aNil))))) (lCons (up (eCall 1 fn__law_ways (aCons (eVar 4) aNil))) lNil))) [.val S, .val (.ref 0), .val (.lst [.int q, .int r]), .val (.int p), .val (.int q), .val (.int r), .val (.int n1), .val (.int kd), .un, .un, .un, .un, .un, .un, .un, .un, .un, .un, .un] s4 = .ok .nx [.val S, .val (.ref 0), .val (.lst [.int q, .int r]), .val (.int p), .val (.int q), .val (.int r), .val (.int n1), .val (.int kd), .val (.lst [.int a, .int b, .int c]), .val (.lst ((waysT q).map D.int)), .un, .un, .un, .un, .un, .un, .un, .un, .un] s5 := by simp -implicitDefEqProofs only [v_ok, v_bnd, v_ret, v_eVar, v_bVar, v_fz, v_frz, v_up, v_fro, v_op2, v_op1, v_opN, v_pv2, v_pv1, v_pvN, v_pvf, v_pvn, v_pvt, v_pI, v_pB, v_d1, v_d2, v_od, v_od2, r_int, r_bl, r_non, r_str, r_lst, r_tup, r_fzl, r_rep, r_dic, r_nil, r_cons, v_seq, v_seqn, v_seqr, v_nil, v_sif, v_mif, v_ite, v_sret, v_sretN, v_set, v_setM, v_sl1, v_sl2, v_bl, v_blP, v_tru, v_truM, v_opt, v_chain, v_chP, v_and, v_or, v_not, v_eNot, v_eAnd, v_andD, v_eOr, v_orD, v_aNil, v_aCons, v_lNil, v_lCons, v_par, v_parM, v_setE, v_setN, v_oN, v_oP, v_part, v_slc, v_call, v_callK, v_for, v_seqI, v_it1, v_it2, v_it3, v_rng1, v_rng1M, v_rng2, v_rng2M, v_enu, v_enuM, v_rv, v_rvM, v_zp, v_zp1, v_lc, v_lr1, v_sti, v_app, v_popR, d_sub, d_add, d_neg, d_eq, d_ne, d_lt, d_le, d_gt, d_ge, d_int, d_len, d_lenT, d_isN, d_isNN, t_bl, List.getElem?_cons_zero, List.getElem?_cons_succ, List.set_cons_zero, List.set_cons_succ, List.length_cons, List.length_nil, if_true, if_false, Bool.false_eq_true, ca3 e5, ca1 (ways_tab q hq _)]
  have p6 : (sIf (mOr (mNot (mTru (eCall 4 fn__law_is_count_right (aCons (eVar 4) (aCons (eVar 9) (aCons (eVar 6) (aCons (ret (D.bl false)) aNil))))))) (mNot (mTru (eCall 3 fn__law_are_found_right (aCons (eVar 4) (aCons (eVar 8) (aCons (ret (D.bl true)) aNil))))))) (sSeq (sRet (ret (D.bl false))) sNil) sNil) [.val S, .val (.ref 0), .val (.lst [.int q, .int r]), .val (.int p), .val (.int q), .val (.int r), .val (.int n1), .val (.int kd), .val (.lst [.int a, .int b, .int c]), .val (.lst ((waysT q).map D.int)), .un, .un, .un, .un, .un, .un, .un, .un, .un] s5 = .ok .nx [.val S, .val (.ref 0), .val (.lst [.int q, .int r]), .val (.int p), .val (.int q), .val (.int r), .val (.int n1), .val (.int kd), .val (.lst [.int a, .int b, .int c]), .val (.lst ((waysT q).map D.int)), .un, .un, .un, .un, .un, .un, .un, .un, .un] s5 := by simp -implicitDefEqProofs only [v_ok, v_bnd, v_ret, v_eVar, v_bVar, v_fz, v_frz, v_up, v_fro, v_op2, v_op1, v_opN, v_pv2, v_pv1, v_pvN, v_pvf, v_pvn, v_pvt, v_pI, v_pB, v_d1, v_d2, v_od, v_od2, r_int, r_bl, r_non, r_str, r_lst, r_tup, r_fzl, r_rep, r_dic, r_nil, r_cons, v_seq, v_seqn, v_seqr, v_nil, v_sif, v_mif, v_ite, v_sret, v_sretN, v_set, v_setM, v_sl1, v_sl2, v_bl, v_blP, v_tru, v_truM, v_opt, v_chain, v_chP, v_and, v_or, v_not, v_eNot, v_eAnd, v_andD, v_eOr, v_orD, v_aNil, v_aCons, v_lNil, v_lCons, v_par, v_parM, v_setE, v_setN, v_oN, v_oP, v_part, v_slc, v_call, v_callK, v_for, v_seqI, v_it1, v_it2, v_it3, v_rng1, v_rng1M, v_rng2, v_rng2M, v_enu, v_enuM, v_rv, v_rvM, v_zp, v_zp1, v_lc, v_lr1, v_sti, v_app, v_popR, d_sub, d_add, d_neg, d_eq, d_ne, d_lt, d_le, d_gt, d_ge, d_int, d_len, d_lenT, d_isN, d_isNN, t_bl, List.getElem?_cons_zero, List.getElem?_cons_succ, List.set_cons_zero, List.set_cons_succ, List.length_cons, List.length_nil, if_true, if_false, Bool.false_eq_true, ca4 (count_ok hq n1 _ _), ca3 (found_ok hq a b c _ _), Bool.not_true]
  have num : ∀ (k t w : Int) (x13 x14 : Sl) (s : Sto), Bag s → t ∈ primes → ∃ (n : Int) (s' : Sto), (sSet 13 (up (mIf (mBl (mOp2 dEq (bVar 12) (ret (D.int 0)))) (eCall 1 fn__law_great (aCons (eVar 1) aNil)) (eCall 3 fn__law_with_rest (aCons (eVar 1) (aCons (eVar 11) (aCons (mIf (mBl (mOp2 dEq (bVar 12) (ret (D.int 1)))) (ret (D.int 0)) (eCall 2 fn__law_draw (aCons (eVar 1) (aCons (eVar 11) aNil)))) aNil))))))) [.val S, .val (.ref 0), .val (.lst [.int q, .int r]), .val (.int p), .val (.int q), .val (.int r), .val (.int n1), .val (.int kd), .val (.lst [.int a, .int b, .int c]), .val (.lst ((waysT q).map D.int)), .val (.int k), .val (.int t), .val (.int w), x13, x14, .un, .un, .un, .un] s = .ok .nx [.val S, .val (.ref 0), .val (.lst [.int q, .int r]), .val (.int p), .val (.int q), .val (.int r), .val (.int n1), .val (.int kd), .val (.lst [.int a, .int b, .int c]), .val (.lst ((waysT q).map D.int)), .val (.int k), .val (.int t), .val (.int w), .val (.int n), x14, .un, .un, .un, .un] s' ∧ Bag s' := by
    intro k t w x13 x14 s hB ht
    obtain ⟨t1, t2⟩ := prime_pos t ht
    by_cases h0 : w = 0
    · obtain ⟨n, s', e', _, _, hB'⟩ := great_ok hB
      exact ⟨n, s', by simp -implicitDefEqProofs only [v_ok, v_bnd, v_ret, v_eVar, v_bVar, v_fz, v_frz, v_up, v_fro, v_op2, v_op1, v_opN, v_pv2, v_pv1, v_pvN, v_pvf, v_pvn, v_pvt, v_pI, v_pB, v_d1, v_d2, v_od, v_od2, r_int, r_bl, r_non, r_str, r_lst, r_tup, r_fzl, r_rep, r_dic, r_nil, r_cons, v_seq, v_seqn, v_seqr, v_nil, v_sif, v_mif, v_ite, v_sret, v_sretN, v_set, v_setM, v_sl1, v_sl2, v_bl, v_blP, v_tru, v_truM, v_opt, v_chain, v_chP, v_and, v_or, v_not, v_eNot, v_eAnd, v_andD, v_eOr, v_orD, v_aNil, v_aCons, v_lNil, v_lCons, v_par, v_parM, v_setE, v_setN, v_oN, v_oP, v_part, v_slc, v_call, v_callK, v_for, v_seqI, v_it1, v_it2, v_it3, v_rng1, v_rng1M, v_rng2, v_rng2M, v_enu, v_enuM, v_rv, v_rvM, v_zp, v_zp1, v_lc, v_lr1, v_sti, v_app, v_popR, d_sub, d_add, d_neg, d_eq, d_ne, d_lt, d_le, d_gt, d_ge, d_int, d_len, d_lenT, d_isN, d_isNN, t_bl, List.getElem?_cons_zero, List.getElem?_cons_succ, List.set_cons_zero, List.set_cons_succ, List.length_cons, List.length_nil, if_true, if_false, Bool.false_eq_true, h0, decide_true, ca1 e'], hB'⟩
    · by_cases h1 : w = 1
      · obtain ⟨n, s', e', _, hB'⟩ := with_ok (q := t) (rest := 0) hB t1 (by omega)
        exact ⟨n, s', by simp -implicitDefEqProofs only [v_ok, v_bnd, v_ret, v_eVar, v_bVar, v_fz, v_frz, v_up, v_fro, v_op2, v_op1, v_opN, v_pv2, v_pv1, v_pvN, v_pvf, v_pvn, v_pvt, v_pI, v_pB, v_d1, v_d2, v_od, v_od2, r_int, r_bl, r_non, r_str, r_lst, r_tup, r_fzl, r_rep, r_dic, r_nil, r_cons, v_seq, v_seqn, v_seqr, v_nil, v_sif, v_mif, v_ite, v_sret, v_sretN, v_set, v_setM, v_sl1, v_sl2, v_bl, v_blP, v_tru, v_truM, v_opt, v_chain, v_chP, v_and, v_or, v_not, v_eNot, v_eAnd, v_andD, v_eOr, v_orD, v_aNil, v_aCons, v_lNil, v_lCons, v_par, v_parM, v_setE, v_setN, v_oN, v_oP, v_part, v_slc, v_call, v_callK, v_for, v_seqI, v_it1, v_it2, v_it3, v_rng1, v_rng1M, v_rng2, v_rng2M, v_enu, v_enuM, v_rv, v_rvM, v_zp, v_zp1, v_lc, v_lr1, v_sti, v_app, v_popR, d_sub, d_add, d_neg, d_eq, d_ne, d_lt, d_le, d_gt, d_ge, d_int, d_len, d_lenT, d_isN, d_isNN, t_bl, List.getElem?_cons_zero, List.getElem?_cons_succ, List.set_cons_zero, List.set_cons_succ, List.length_cons, List.length_nil, if_true, if_false, Bool.false_eq_true, h0, h1, decide_true, decide_false, ca3 e', show ¬ ((1 : Int) = 0) by decide], hB'⟩
      · obtain ⟨y, s2, e2, _, _, hB⟩ := draw_ok (b := t) hB t1 (divOk_of t1 (by omega))
        obtain ⟨n, s', e', _, hB'⟩ := with_ok (q := t) (rest := y) hB t1 (by omega)
        exact ⟨n, s', by simp -implicitDefEqProofs only [v_ok, v_bnd, v_ret, v_eVar, v_bVar, v_fz, v_frz, v_up, v_fro, v_op2, v_op1, v_opN, v_pv2, v_pv1, v_pvN, v_pvf, v_pvn, v_pvt, v_pI, v_pB, v_d1, v_d2, v_od, v_od2, r_int, r_bl, r_non, r_str, r_lst, r_tup, r_fzl, r_rep, r_dic, r_nil, r_cons, v_seq, v_seqn, v_seqr, v_nil, v_sif, v_mif, v_ite, v_sret, v_sretN, v_set, v_setM, v_sl1, v_sl2, v_bl, v_blP, v_tru, v_truM, v_opt, v_chain, v_chP, v_and, v_or, v_not, v_eNot, v_eAnd, v_andD, v_eOr, v_orD, v_aNil, v_aCons, v_lNil, v_lCons, v_par, v_parM, v_setE, v_setN, v_oN, v_oP, v_part, v_slc, v_call, v_callK, v_for, v_seqI, v_it1, v_it2, v_it3, v_rng1, v_rng1M, v_rng2, v_rng2M, v_enu, v_enuM, v_rv, v_rvM, v_zp, v_zp1, v_lc, v_lr1, v_sti, v_app, v_popR, d_sub, d_add, d_neg, d_eq, d_ne, d_lt, d_le, d_gt, d_ge, d_int, d_len, d_lenT, d_isN, d_isNN, t_bl, List.getElem?_cons_zero, List.getElem?_cons_succ, List.set_cons_zero, List.set_cons_succ, List.length_cons, List.length_nil, if_true, if_false, Bool.false_eq_true, h0, h1, decide_false, ca2 e2, ca3 e'], hB'⟩
  obtain ⟨e7', s7, h7, x10, x11, x12, x13, x14, n10, rfl, hB7, _⟩ := forL_ok (tg := (tgT 2 (tgCons (tgN 10) (tgCons (tgN 11) tgNil)))) (B := (sSeq (sSet 12 (up (eCall 2 fn__law_draw (aCons (eVar 1) (aCons (ret (D.int 3)) aNil))))) (sSeq (sSet 13 (up (mIf (mBl (mOp2 dEq (bVar 12) (ret (D.int 0)))) (eCall 1 fn__law_great (aCons (eVar 1) aNil)) (eCall 3 fn__law_with_rest (aCons (eVar 1) (aCons (eVar 11) (aCons (mIf (mBl (mOp2 dEq (bVar 12) (ret (D.int 1)))) (ret (D.int 0)) (eCall 2 fn__law_draw (aCons (eVar 1) (aCons (eVar 11) aNil)))) aNil))))))) (sSeq (sIf (mNot (mTru (eCall 4 fn__law_is_count_right (aCons (eVar 11) (aCons (eCall 1 fn__law_ways (aCons (eVar 11) aNil)) (aCons (eVar 13) (aCons (fz (mOp2 dEq (fz (mOp2 dMod (bVar 10) (ret (D.int 2)))) (ret (D.int 0)))) aNil))))))) (sSeq (sRet (ret (D.bl false))) sNil) sNil) (sSeq (sFor (iSeq (fz (pLst (aCons (eCall 3 fn__law_formula (aCons (eVar 1) (aCons (eVar 11) (aCons (fz (mOp2 dMod (fz (mOpN dInt (aCons (fz (mOp2 dAdd (bVar 10) (bVar 7))) aNil))) (ret (D.int 9)))) aNil)))) (aCons (eCall 3 fn__law_formula (aCons (eVar 1) (aCons (eVar 11) (aCons (eCall 2 fn__law_draw (aCons (eVar 1) (aCons (ret (D.int 9)) aNil))) aNil)))) aNil))))) (tgN 14) (sSeq (sIf (mNot (mTru (eCall 3 fn__law_are_found_right (aCons (eVar 11) (aCons (eVar 14) (aCons (fz (mOp2 dEq (fz (mOp2 dMod (bVar 10) (ret (D.int 2)))) (ret (D.int 1)))) aNil)))))) (sSeq (sRet (ret (D.bl false))) sNil) sNil) sNil)) sNil)))))
    (fun ds e s => ∃ x10 x11 x12 x13 x14 : Sl, isOwn (some x10) = false ∧ e = [.val S, .val (.ref 0), .val (.lst [.int q, .int r]), .val (.int p), .val (.int q), .val (.int r), .val (.int n1), .val (.int kd), .val (.lst [.int a, .int b, .int c]), .val (.lst ((waysT q).map D.int)), x10, x11, x12, x13, x14, .un, .un, .un, .un] ∧ Bag s ∧ ∀ d ∈ ds, ∃ (k : Nat) (t : Int), d = .tup [.int k, .int t] ∧ t ∈ primes) (fun x rr e s J => by
      obtain ⟨x10, x11, x12, x13, x14, _, rfl, hB, hd⟩ := J
      obtain ⟨k0, t, rfl, ht⟩ := hd x (List.mem_cons_self ..)
      obtain ⟨k, hk⟩ : ∃ k : Int, k = (k0 : Int) := ⟨_, rfl⟩
      rw [← hk]
      obtain ⟨w, sa, ea, _, _, hB⟩ := draw_ok (b := 3) hB (by decide) (by decide)
      obtain ⟨n, sb, eb, hB⟩ := num k t w x13 x14 sa hB ht
      obtain ⟨f1, f2, f3, sc, ec, hB⟩ := formula_ok (q := t) (kind := (k + kd).fmod 9) hB ht
      obtain ⟨y, sd, ed, _, _, hB⟩ := draw_ok (b := 9) hB (by decide) (by decide)
      obtain ⟨g1, g2, g3, se, ee, hB⟩ := formula_ok (q := t) (kind := y) hB ht
      obtain ⟨e14', s14, h14, z14, rfl, rfl, _⟩ := forL_ok (tg := tgN 14) (B := (sSeq (sIf (mNot (mTru (eCall 3 fn__law_are_found_right (aCons (eVar 11) (aCons (eVar 14) (aCons (fz (mOp2 dEq (fz (mOp2 dMod (bVar 10) (ret (D.int 2)))) (ret (D.int 1)))) aNil)))))) (sSeq (sRet (ret (D.bl false))) sNil) sNil) sNil))
        (fun ds e s => ∃ z14 : Sl, e = [.val S, .val (.ref 0), .val (.lst [.int q, .int r]), .val (.int p), .val (.int q), .val (.int r), .val (.int n1), .val (.int kd), .val (.lst [.int a, .int b, .int c]), .val (.lst ((waysT q).map D.int)), .val (.int k), .val (.int t), .val (.int w), .val (.int n), z14, .un, .un, .un, .un] ∧ s = se ∧ ∀ d ∈ ds, isF d) (fun x rr e s J => by
          obtain ⟨z14, rfl, rfl, hd⟩ := J
          obtain ⟨u, v, w', rfl⟩ := hd x (List.mem_cons_self ..)
          refine ⟨_, _, _, rfl, ?_, .val (.lst [.int u, .int v, .int w']), rfl, rfl, fun d m => hd d (List.mem_cons_of_mem _ m)⟩
          show (sSeq _ _) [.val S, .val (.ref 0), .val (.lst [.int q, .int r]), .val (.int p), .val (.int q), .val (.int r), .val (.int n1), .val (.int kd), .val (.lst [.int a, .int b, .int c]), .val (.lst ((waysT q).map D.int)), .val (.int k), .val (.int t), .val (.int w), .val (.int n), .val (.lst [.int u, .int v, .int w']), .un, .un, .un, .un] _ = _
          simp -implicitDefEqProofs only [v_ok, v_bnd, v_ret, v_eVar, v_bVar, v_fz, v_frz, v_up, v_fro, v_op2, v_op1, v_opN, v_pv2, v_pv1, v_pvN, v_pvf, v_pvn, v_pvt, v_pI, v_pB, v_d1, v_d2, v_od, v_od2, r_int, r_bl, r_non, r_str, r_lst, r_tup, r_fzl, r_rep, r_dic, r_nil, r_cons, v_seq, v_seqn, v_seqr, v_nil, v_sif, v_mif, v_ite, v_sret, v_sretN, v_set, v_setM, v_sl1, v_sl2, v_bl, v_blP, v_tru, v_truM, v_opt, v_chain, v_chP, v_and, v_or, v_not, v_eNot, v_eAnd, v_andD, v_eOr, v_orD, v_aNil, v_aCons, v_lNil, v_lCons, v_par, v_parM, v_setE, v_setN, v_oN, v_oP, v_part, v_slc, v_call, v_callK, v_for, v_seqI, v_it1, v_it2, v_it3, v_rng1, v_rng1M, v_rng2, v_rng2M, v_enu, v_enuM, v_rv, v_rvM, v_zp, v_zp1, v_lc, v_lr1, v_sti, v_app, v_popR, d_sub, d_add, d_neg, d_eq, d_ne, d_lt, d_le, d_gt, d_ge, d_int, d_len, d_lenT, d_isN, d_isNN, t_bl, List.getElem?_cons_zero, List.getElem?_cons_succ, List.set_cons_zero, List.set_cons_succ, List.length_cons, List.length_nil, if_true, if_false, Bool.false_eq_true, d_mod (show (2 : Int) ≠ 0 by decide), ca3 (found_ok ht u v w' _ _), Bool.not_true]) (ds := [.lst [.int f1, .int f2, .int f3], .lst [.int g1, .int g2, .int g3]]) (e := [.val S, .val (.ref 0), .val (.lst [.int q, .int r]), .val (.int p), .val (.int q), .val (.int r), .val (.int n1), .val (.int kd), .val (.lst [.int a, .int b, .int c]), .val (.lst ((waysT q).map D.int)), .val (.int k), .val (.int t), .val (.int w), .val (.int n), x14, .un, .un, .un, .un]) (s := se)
        ⟨x14, rfl, rfl, fun d m => by
          simp only [List.mem_cons, List.not_mem_nil, or_false] at m
          rcases m with h | h <;> exact ⟨_, _, _, h⟩⟩
      have b1 : (sSet 12 (up (eCall 2 fn__law_draw (aCons (eVar 1) (aCons (ret (D.int 3)) aNil))))) [.val S, .val (.ref 0), .val (.lst [.int q, .int r]), .val (.int p), .val (.int q), .val (.int r), .val (.int n1), .val (.int kd), .val (.lst [.int a, .int b, .int c]), .val (.lst ((waysT q).map D.int)), .val (.int k), .val (.int t), x12, x13, x14, .un, .un, .un, .un] s = .ok .nx [.val S, .val (.ref 0), .val (.lst [.int q, .int r]), .val (.int p), .val (.int q), .val (.int r), .val (.int n1), .val (.int kd), .val (.lst [.int a, .int b, .int c]), .val (.lst ((waysT q).map D.int)), .val (.int k), .val (.int t), .val (.int w), x13, x14, .un, .un, .un, .un] sa := by simp -implicitDefEqProofs only [v_ok, v_bnd, v_ret, v_eVar, v_bVar, v_fz, v_frz, v_up, v_fro, v_op2, v_op1, v_opN, v_pv2, v_pv1, v_pvN, v_pvf, v_pvn, v_pvt, v_pI, v_pB, v_d1, v_d2, v_od, v_od2, r_int, r_bl, r_non, r_str, r_lst, r_tup, r_fzl, r_rep, r_dic, r_nil, r_cons, v_seq, v_seqn, v_seqr, v_nil, v_sif, v_mif, v_ite, v_sret, v_sretN, v_set, v_setM, v_sl1, v_sl2, v_bl, v_blP, v_tru, v_truM, v_opt, v_chain, v_chP, v_and, v_or, v_not, v_eNot, v_eAnd, v_andD, v_eOr, v_orD, v_aNil, v_aCons, v_lNil, v_lCons, v_par, v_parM, v_setE, v_setN, v_oN, v_oP, v_part, v_slc, v_call, v_callK, v_for, v_seqI, v_it1, v_it2, v_it3, v_rng1, v_rng1M, v_rng2, v_rng2M, v_enu, v_enuM, v_rv, v_rvM, v_zp, v_zp1, v_lc, v_lr1, v_sti, v_app, v_popR, d_sub, d_add, d_neg, d_eq, d_ne, d_lt, d_le, d_gt, d_ge, d_int, d_len, d_lenT, d_isN, d_isNN, t_bl, List.getElem?_cons_zero, List.getElem?_cons_succ, List.set_cons_zero, List.set_cons_succ, List.length_cons, List.length_nil, if_true, if_false, Bool.false_eq_true, ca2 ea]
      have b3 : (sIf (mNot (mTru (eCall 4 fn__law_is_count_right (aCons (eVar 11) (aCons (eCall 1 fn__law_ways (aCons (eVar 11) aNil)) (aCons (eVar 13) (aCons (fz (mOp2 dEq (fz (mOp2 dMod (bVar 10) (ret (D.int 2)))) (ret (D.int 0)))) aNil))))))) (sSeq (sRet (ret (D.bl false))) sNil) sNil) [.val S, .val (.ref 0), .val (.lst [.int q, .int r]), .val (.int p), .val (.int q), .val (.int r), .val (.int n1), .val (.int kd), .val (.lst [.int a, .int b, .int c]), .val (.lst ((waysT q).map D.int)), .val (.int k), .val (.int t), .val (.int w), .val (.int n), x14, .un, .un, .un, .un] sb = .ok .nx [.val S, .val (.ref 0), .val (.lst [.int q, .int r]), .val (.int p), .val (.int q), .val (.int r), .val (.int n1), .val (.int kd), .val (.lst [.int a, .int b, .int c]), .val (.lst ((waysT q).map D.int)), .val (.int k), .val (.int t), .val (.int w), .val (.int n), x14, .un, .un, .un, .un] sb := by simp -implicitDefEqProofs only [v_ok, v_bnd, v_ret, v_eVar, v_bVar, v_fz, v_frz, v_up, v_fro, v_op2, v_op1, v_opN, v_pv2, v_pv1, v_pvN, v_pvf, v_pvn, v_pvt, v_pI, v_pB, v_d1, v_d2, v_od, v_od2, r_int, r_bl, r_non, r_str, r_lst, r_tup, r_fzl, r_rep, r_dic, r_nil, r_cons, v_seq, v_seqn, v_seqr, v_nil, v_sif, v_mif, v_ite, v_sret, v_sretN, v_set, v_setM, v_sl1, v_sl2, v_bl, v_blP, v_tru, v_truM, v_opt, v_chain, v_chP, v_and, v_or, v_not, v_eNot, v_eAnd, v_andD, v_eOr, v_orD, v_aNil, v_aCons, v_lNil, v_lCons, v_par, v_parM, v_setE, v_setN, v_oN, v_oP, v_part, v_slc, v_call, v_callK, v_for, v_seqI, v_it1, v_it2, v_it3, v_rng1, v_rng1M, v_rng2, v_rng2M, v_enu, v_enuM, v_rv, v_rvM, v_zp, v_zp1, v_lc, v_lr1, v_sti, v_app, v_popR, d_sub, d_add, d_neg, d_eq, d_ne, d_lt, d_le, d_gt, d_ge, d_int, d_len, d_lenT, d_isN, d_isNN, t_bl, List.getElem?_cons_zero, List.getElem?_cons_succ, List.set_cons_zero, List.set_cons_succ, List.length_cons, List.length_nil, if_true, if_false, Bool.false_eq_true, ca1 (ways_tab t ht _), d_mod (show (2 : Int) ≠ 0 by decide), ca4 (count_ok ht n _ _), Bool.not_true]
      have b4 : (sFor (iSeq (fz (pLst (aCons (eCall 3 fn__law_formula (aCons (eVar 1) (aCons (eVar 11) (aCons (fz (mOp2 dMod (fz (mOpN dInt (aCons (fz (mOp2 dAdd (bVar 10) (bVar 7))) aNil))) (ret (D.int 9)))) aNil)))) (aCons (eCall 3 fn__law_formula (aCons (eVar 1) (aCons (eVar 11) (aCons (eCall 2 fn__law_draw (aCons (eVar 1) (aCons (ret (D.int 9)) aNil))) aNil)))) aNil))))) (tgN 14) (sSeq (sIf (mNot (mTru (eCall 3 fn__law_are_found_right (aCons (eVar 11) (aCons (eVar 14) (aCons (fz (mOp2 dEq (fz (mOp2 dMod (bVar 10) (ret (D.int 2)))) (ret (D.int 1)))) aNil)))))) (sSeq (sRet (ret (D.bl false))) sNil) sNil) sNil)) [.val S, .val (.ref 0), .val (.lst [.int q, .int r]), .val (.int p), .val (.int q), .val (.int r), .val (.int n1), .val (.int kd), .val (.lst [.int a, .int b, .int c]), .val (.lst ((waysT q).map D.int)), .val (.int k), .val (.int t), .val (.int w), .val (.int n), x14, .un, .un, .un, .un] sb = .ok .nx [.val S, .val (.ref 0), .val (.lst [.int q, .int r]), .val (.int p), .val (.int q), .val (.int r), .val (.int n1), .val (.int kd), .val (.lst [.int a, .int b, .int c]), .val (.lst ((waysT q).map D.int)), .val (.int k), .val (.int t), .val (.int w), .val (.int n), z14, .un, .un, .un, .un] s14 := by simp -implicitDefEqProofs only [v_ok, v_bnd, v_ret, v_eVar, v_bVar, v_fz, v_frz, v_up, v_fro, v_op2, v_op1, v_opN, v_pv2, v_pv1, v_pvN, v_pvf, v_pvn, v_pvt, v_pI, v_pB, v_d1, v_d2, v_od, v_od2, r_int, r_bl, r_non, r_str, r_lst, r_tup, r_fzl, r_rep, r_dic, r_nil, r_cons, v_seq, v_seqn, v_seqr, v_nil, v_sif, v_mif, v_ite, v_sret, v_sretN, v_set, v_setM, v_sl1, v_sl2, v_bl, v_blP, v_tru, v_truM, v_opt, v_chain, v_chP, v_and, v_or, v_not, v_eNot, v_eAnd, v_andD, v_eOr, v_orD, v_aNil, v_aCons, v_lNil, v_lCons, v_par, v_parM, v_setE, v_setN, v_oN, v_oP, v_part, v_slc, v_call, v_callK, v_for, v_seqI, v_it1, v_it2, v_it3, v_rng1, v_rng1M, v_rng2, v_rng2M, v_enu, v_enuM, v_rv, v_rvM, v_zp, v_zp1, v_lc, v_lr1, v_sti, v_app, v_popR, d_sub, d_add, d_neg, d_eq, d_ne, d_lt, d_le, d_gt, d_ge, d_int, d_len, d_lenT, d_isN, d_isNN, t_bl, List.getElem?_cons_zero, List.getElem?_cons_succ, List.set_cons_zero, List.set_cons_succ, List.length_cons, List.length_nil, if_true, if_false, Bool.false_eq_true, d_mod (show (9 : Int) ≠ 0 by decide), ca3 ec, ca2 ed, ca3 ee, v_lst, l2, l3, l4, l5, l6, Nat.zero_add, Nat.reduceAdd, h14]
      refine ⟨[.val S, .val (.ref 0), .val (.lst [.int q, .int r]), .val (.int p), .val (.int q), .val (.int r), .val (.int n1), .val (.int kd), .val (.lst [.int a, .int b, .int c]), .val (.lst ((waysT q).map D.int)), .val (.int k), .val (.int t), x12, x13, x14, .un, .un, .un, .un], [.val S, .val (.ref 0), .val (.lst [.int q, .int r]), .val (.int p), .val (.int q), .val (.int r), .val (.int n1), .val (.int kd), .val (.lst [.int a, .int b, .int c]), .val (.lst ((waysT q).map D.int)), .val (.int k), .val (.int t), .val (.int w), .val (.int n), z14, .un, .un, .un, .un], s14, rfl, ?_, .val (.int k), .val (.int t), .val (.int w), .val (.int n), z14, rfl, rfl, hB, fun d m => hd d (List.mem_cons_of_mem _ m)⟩
      rw [v_seq, b1, v_ok, v_seqn, v_seq, eb, v_ok, v_seqn, v_seq, b3, v_ok, v_seqn, v_seq, b4, v_ok, v_seqn]
      rfl) (ds := enumD 0 primesD) (e := [.val S, .val (.ref 0), .val (.lst [.int q, .int r]), .val (.int p), .val (.int q), .val (.int r), .val (.int n1), .val (.int kd), .val (.lst [.int a, .int b, .int c]), .val (.lst ((waysT q).map D.int)), .un, .un, .un, .un, .un, .un, .un, .un, .un]) (s := s5)
    ⟨.un, .un, .un, .un, .un, rfl, rfl, hB, fun d m => by
      obtain ⟨k, x, rfl, hx⟩ := enum_mem _ _ _ m
      obtain ⟨t, ht, rfl⟩ := prime_of hx
      exact ⟨k, t, rfl, ht⟩⟩
  have p7 : (sFor (iEnu (aCons (eCall 0 fn__law_primes aNil) aNil)) (tgT 2 (tgCons (tgN 10) (tgCons (tgN 11) tgNil))) (sSeq (sSet 12 (up (eCall 2 fn__law_draw (aCons (eVar 1) (aCons (ret (D.int 3)) aNil))))) (sSeq (sSet 13 (up (mIf (mBl (mOp2 dEq (bVar 12) (ret (D.int 0)))) (eCall 1 fn__law_great (aCons (eVar 1) aNil)) (eCall 3 fn__law_with_rest (aCons (eVar 1) (aCons (eVar 11) (aCons (mIf (mBl (mOp2 dEq (bVar 12) (ret (D.int 1)))) (ret (D.int 0)) (eCall 2 fn__law_draw (aCons (eVar 1) (aCons (eVar 11) aNil)))) aNil))))))) (sSeq (sIf (mNot (mTru (eCall 4 fn__law_is_count_right (aCons (eVar 11) (aCons (eCall 1 fn__law_ways (aCons (eVar 11) aNil)) (aCons (eVar 13) (aCons (fz (mOp2 dEq (fz (mOp2 dMod (bVar 10) (ret (D.int 2)))) (ret (D.int 0)))) aNil))))))) (sSeq (sRet (ret (D.bl false))) sNil) sNil) (sSeq (sFor (iSeq (fz (pLst (aCons (eCall 3 fn__law_formula (aCons (eVar 1) (aCons (eVar 11) (aCons (fz (mOp2 dMod (fz (mOpN dInt (aCons (fz (mOp2 dAdd (bVar 10) (bVar 7))) aNil))) (ret (D.int 9)))) aNil)))) (aCons (eCall 3 fn__law_formula (aCons (eVar 1) (aCons (eVar 11) (aCons (eCall 2 fn__law_draw (aCons (eVar 1) (aCons (ret (D.int 9)) aNil))) aNil)))) aNil))))) (tgN 14) (sSeq (sIf (mNot (mTru (eCall 3 fn__law_are_found_right (aCons (eVar 11) (aCons (eVar 14) (aCons (fz (mOp2 dEq (fz (mOp2 dMod (bVar 10) (ret (D.int 2)))) (ret (D.int 1)))) aNil)))))) (sSeq (sRet (ret (D.bl false))) sNil) sNil) sNil)) sNil))))) [.val S, .val (.ref 0), .val (.lst [.int q, .int r]), .val (.int p), .val (.int q), .val (.int r), .val (.int n1), .val (.int kd), .val (.lst [.int a, .int b, .int c]), .val (.lst ((waysT q).map D.int)), .un, .un, .un, .un, .un, .un, .un, .un, .un] s5 = .ok .nx [.val S, .val (.ref 0), .val (.lst [.int q, .int r]), .val (.int p), .val (.int q), .val (.int r), .val (.int n1), .val (.int kd), .val (.lst [.int a, .int b, .int c]), .val (.lst ((waysT q).map D.int)), x10, x11, x12, x13, x14, .un, .un, .un, .un] s7 := by simp -implicitDefEqProofs only [v_ok, v_bnd, v_ret, v_eVar, v_bVar, v_fz, v_frz, v_up, v_fro, v_op2, v_op1, v_opN, v_pv2, v_pv1, v_pvN, v_pvf, v_pvn, v_pvt, v_pI, v_pB, v_d1, v_d2, v_od, v_od2, r_int, r_bl, r_non, r_str, r_lst, r_tup, r_fzl, r_rep, r_dic, r_nil, r_cons, v_seq, v_seqn, v_seqr, v_nil, v_sif, v_mif, v_ite, v_sret, v_sretN, v_set, v_setM, v_sl1, v_sl2, v_bl, v_blP, v_tru, v_truM, v_opt, v_chain, v_chP, v_and, v_or, v_not, v_eNot, v_eAnd, v_andD, v_eOr, v_orD, v_aNil, v_aCons, v_lNil, v_lCons, v_par, v_parM, v_setE, v_setN, v_oN, v_oP, v_part, v_slc, v_call, v_callK, v_for, v_seqI, v_it1, v_it2, v_it3, v_rng1, v_rng1M, v_rng2, v_rng2M, v_enu, v_enuM, v_rv, v_rvM, v_zp, v_zp1, v_lc, v_lr1, v_sti, v_app, v_popR, d_sub, d_add, d_neg, d_eq, d_ne, d_lt, d_le, d_gt, d_ge, d_int, d_len, d_lenT, d_isN, d_isNN, t_bl, List.getElem?_cons_zero, List.getElem?_cons_succ, List.set_cons_zero, List.set_cons_succ, List.length_cons, List.length_nil, if_true, if_false, Bool.false_eq_true, ca0 (primes_ok _), h7]
  obtain ⟨e8', s8, h8, x15, rfl, hB8, _⟩ := forL_ok (tg := tgN 15) (B := (sSeq (sIf (mNot (mTru (eCall 3 fn__law_are_found_right (aCons (eVar 4) (aCons (eCall 3 fn__law_formula (aCons (eVar 1) (aCons (eVar 4) (aCons (eVar 15) aNil)))) (aCons (fz (mOp2 dEq (fz (mOp2 dMod (bVar 15) (ret (D.int 2)))) (ret (D.int 0)))) aNil)))))) (sSeq (sRet (ret (D.bl false))) sNil) sNil) sNil))
    (fun ds e s => ∃ x15 : Sl, e = [.val S, .val (.ref 0), .val (.lst [.int q, .int r]), .val (.int p), .val (.int q), .val (.int r), .val (.int n1), .val (.int kd), .val (.lst [.int a, .int b, .int c]), .val (.lst ((waysT q).map D.int)), x10, x11, x12, x13, x14, x15, .un, .un, .un] ∧ Bag s ∧ ∀ d ∈ ds, ∃ k, d = .int k) (fun x rr e s J => by
      obtain ⟨x15, rfl, hB, hd⟩ := J
      obtain ⟨k, rfl⟩ := hd x (List.mem_cons_self ..)
      obtain ⟨u, v, w, s', e', hB'⟩ := formula_ok (q := q) (kind := k) hB hq
      refine ⟨_, _, s', rfl, ?_, .val (.int k), rfl, hB', fun d m => hd d (List.mem_cons_of_mem _ m)⟩
      show (sSeq _ _) [.val S, .val (.ref 0), .val (.lst [.int q, .int r]), .val (.int p), .val (.int q), .val (.int r), .val (.int n1), .val (.int kd), .val (.lst [.int a, .int b, .int c]), .val (.lst ((waysT q).map D.int)), x10, x11, x12, x13, x14, .val (.int k), .un, .un, .un] s = _
      simp -implicitDefEqProofs only [v_ok, v_bnd, v_ret, v_eVar, v_bVar, v_fz, v_frz, v_up, v_fro, v_op2, v_op1, v_opN, v_pv2, v_pv1, v_pvN, v_pvf, v_pvn, v_pvt, v_pI, v_pB, v_d1, v_d2, v_od, v_od2, r_int, r_bl, r_non, r_str, r_lst, r_tup, r_fzl, r_rep, r_dic, r_nil, r_cons, v_seq, v_seqn, v_seqr, v_nil, v_sif, v_mif, v_ite, v_sret, v_sretN, v_set, v_setM, v_sl1, v_sl2, v_bl, v_blP, v_tru, v_truM, v_opt, v_chain, v_chP, v_and, v_or, v_not, v_eNot, v_eAnd, v_andD, v_eOr, v_orD, v_aNil, v_aCons, v_lNil, v_lCons, v_par, v_parM, v_setE, v_setN, v_oN, v_oP, v_part, v_slc, v_call, v_callK, v_for, v_seqI, v_it1, v_it2, v_it3, v_rng1, v_rng1M, v_rng2, v_rng2M, v_enu, v_enuM, v_rv, v_rvM, v_zp, v_zp1, v_lc, v_lr1, v_sti, v_app, v_popR, d_sub, d_add, d_neg, d_eq, d_ne, d_lt, d_le, d_gt, d_ge, d_int, d_len, d_lenT, d_isN, d_isNN, t_bl, List.getElem?_cons_zero, List.getElem?_cons_succ, List.set_cons_zero, List.set_cons_succ, List.length_cons, List.length_nil, if_true, if_false, Bool.false_eq_true, d_mod (show (2 : Int) ≠ 0 by decide), ca3 e', ca3 (found_ok hq u v w _ _), Bool.not_true]) (ds := rangeD 0 (9 : Int).toNat) (e := [.val S, .val (.ref 0), .val (.lst [.int q, .int r]), .val (.int p), .val (.int q), .val (.int r), .val (.int n1), .val (.int kd), .val (.lst [.int a, .int b, .int c]), .val (.lst ((waysT q).map D.int)), x10, x11, x12, x13, x14, .un, .un, .un, .un]) (s := s7)
    ⟨.un, rfl, hB7, fun d m => by
      obtain ⟨k, rfl, _⟩ := mem_rangeD m
      exact ⟨k, rfl⟩⟩
  have p8 : (sFor (iRng1 (aCons (ret (D.int 9)) aNil)) (tgN 15) (sSeq (sIf (mNot (mTru (eCall 3 fn__law_are_found_right (aCons (eVar 4) (aCons (eCall 3 fn__law_formula (aCons (eVar 1) (aCons (eVar 4) (aCons (eVar 15) aNil)))) (aCons (fz (mOp2 dEq (fz (mOp2 dMod (bVar 15) (ret (D.int 2)))) (ret (D.int 0)))) aNil)))))) (sSeq (sRet (ret (D.bl false))) sNil) sNil) sNil)) [.val S, .val (.ref 0), .val (.lst [.int q, .int r]), .val (.int p), .val (.int q), .val (.int r), .val (.int n1), .val (.int kd), .val (.lst [.int a, .int b, .int c]), .val (.lst ((waysT q).map D.int)), x10, x11, x12, x13, x14, .un, .un, .un, .un] s7 = .ok .nx [.val S, .val (.ref 0), .val (.lst [.int q, .int r]), .val (.int p), .val (.int q), .val (.int r), .val (.int n1), .val (.int kd), .val (.lst [.int a, .int b, .int c]), .val (.lst ((waysT q).map D.int)), x10, x11, x12, x13, x14, x15, .un, .un, .un] s8 := by simp -implicitDefEqProofs only [v_ok, v_bnd, v_ret, v_eVar, v_bVar, v_fz, v_frz, v_up, v_fro, v_op2, v_op1, v_opN, v_pv2, v_pv1, v_pvN, v_pvf, v_pvn, v_pvt, v_pI, v_pB, v_d1, v_d2, v_od, v_od2, r_int, r_bl, r_non, r_str, r_lst, r_tup, r_fzl, r_rep, r_dic, r_nil, r_cons, v_seq, v_seqn, v_seqr, v_nil, v_sif, v_mif, v_ite, v_sret, v_sretN, v_set, v_setM, v_sl1, v_sl2, v_bl, v_blP, v_tru, v_truM, v_opt, v_chain, v_chP, v_and, v_or, v_not, v_eNot, v_eAnd, v_andD, v_eOr, v_orD, v_aNil, v_aCons, v_lNil, v_lCons, v_par, v_parM, v_setE, v_setN, v_oN, v_oP, v_part, v_slc, v_call, v_callK, v_for, v_seqI, v_it1, v_it2, v_it3, v_rng1, v_rng1M, v_rng2, v_rng2M, v_enu, v_enuM, v_rv, v_rvM, v_zp, v_zp1, v_lc, v_lr1, v_sti, v_app, v_popR, d_sub, d_add, d_neg, d_eq, d_ne, d_lt, d_le, d_gt, d_ge, d_int, d_len, d_lenT, d_isN, d_isNN, t_bl, List.getElem?_cons_zero, List.getElem?_cons_succ, List.set_cons_zero, List.set_cons_succ, List.length_cons, List.length_nil, if_true, if_false, Bool.false_eq_true, r9, h8]
  obtain ⟨zs, s9, h9, hB9, al⟩ := lcS (e0 := [.val S, .val (.ref 0), .val (.lst [.int q, .int r]), .val (.int p), .val (.int q), .val (.int r), .val (.int n1), .val (.int kd), .val (.lst [.int a, .int b, .int c]), .val (.lst ((waysT q).map D.int)), x10, x11, x12, x13, x14, x15, .un, .un, .un]) (i := 10) (sl := x10) (J := Bag) (R := fun _ y => ∃ k, y = D.int k) (ds := rangeD 0 (3 : Int).toNat) (elt := (eCall 2 fn__law_pick (aCons (eVar 1) (aCons (fz (pLst (aCons (fz (mOp2 dPow (ret (D.int 10)) (ret (D.int 30)))) (aCons (fz (mOp1 dNeg (fz (mOp2 dPow (ret (D.int 10)) (ret (D.int 30)))))) (aCons (ret (D.int 0)) aNil))))) aNil)))) rfl hB8 fun x hx s hB => by
      obtain ⟨d, s', e', hd, hB'⟩ := pick_ok (xs := [.int 1000000000000000000000000000000, .int (-1000000000000000000000000000000), .int 0]) hB (show 0 < 3 by decide) (show 3 < 1000000 by decide)
      refine ⟨d, s', ?_, hB', ?_⟩
      · simp -implicitDefEqProofs only [v_ok, v_bnd, v_ret, v_eVar, v_bVar, v_fz, v_frz, v_up, v_fro, v_op2, v_op1, v_opN, v_pv2, v_pv1, v_pvN, v_pvf, v_pvn, v_pvt, v_pI, v_pB, v_d1, v_d2, v_od, v_od2, r_int, r_bl, r_non, r_str, r_lst, r_tup, r_fzl, r_rep, r_dic, r_nil, r_cons, v_seq, v_seqn, v_seqr, v_nil, v_sif, v_mif, v_ite, v_sret, v_sretN, v_set, v_setM, v_sl1, v_sl2, v_bl, v_blP, v_tru, v_truM, v_opt, v_chain, v_chP, v_and, v_or, v_not, v_eNot, v_eAnd, v_andD, v_eOr, v_orD, v_aNil, v_aCons, v_lNil, v_lCons, v_par, v_parM, v_setE, v_setN, v_oN, v_oP, v_part, v_slc, v_call, v_callK, v_for, v_seqI, v_it1, v_it2, v_it3, v_rng1, v_rng1M, v_rng2, v_rng2M, v_enu, v_enuM, v_rv, v_rvM, v_zp, v_zp1, v_lc, v_lr1, v_sti, v_app, v_popR, d_sub, d_add, d_neg, d_eq, d_ne, d_lt, d_le, d_gt, d_ge, d_int, d_len, d_lenT, d_isN, d_isNN, t_bl, List.getElem?_cons_zero, List.getElem?_cons_succ, List.set_cons_zero, List.set_cons_succ, List.length_cons, List.length_nil, if_true, if_false, Bool.false_eq_true, pow30, dn, ca2 e', v_lst, l2, l3, l4, l5, l6, Nat.zero_add, Nat.reduceAdd]
      · simp only [List.mem_cons, List.not_mem_nil, or_false] at hd
        rcases hd with h | h | h <;> exact ⟨_, h⟩
  obtain ⟨u0, u1, u2, rfl⟩ := three al
  have h9b := v_lcP (ds := rangeD 0 (3 : Int).toNat) (vs := [10]) (by show (!isOwn (some x10) && true) = true; rw [n10]; rfl) (lim_le (show 3 ≤ 1000000 by decide)) h9
  have p9 : (sSet 16 (pLc (iRng1 (aCons (ret (D.int 3)) aNil)) (tgN 10) tstT (eCall 2 fn__law_pick (aCons (eVar 1) (aCons (fz (pLst (aCons (fz (mOp2 dPow (ret (D.int 10)) (ret (D.int 30)))) (aCons (fz (mOp1 dNeg (fz (mOp2 dPow (ret (D.int 10)) (ret (D.int 30)))))) (aCons (ret (D.int 0)) aNil))))) aNil))) [10])) [.val S, .val (.ref 0), .val (.lst [.int q, .int r]), .val (.int p), .val (.int q), .val (.int r), .val (.int n1), .val (.int kd), .val (.lst [.int a, .int b, .int c]), .val (.lst ((waysT q).map D.int)), x10, x11, x12, x13, x14, x15, .un, .un, .un] s8 = .ok .nx [.val S, .val (.ref 0), .val (.lst [.int q, .int r]), .val (.int p), .val (.int q), .val (.int r), .val (.int n1), .val (.int kd), .val (.lst [.int a, .int b, .int c]), .val (.lst ((waysT q).map D.int)), x10, x11, x12, x13, x14, x15, .own (.lst [.int u0, .int u1, .int u2]), .un, .un] s9 := by simp -implicitDefEqProofs only [v_ok, v_bnd, v_ret, v_eVar, v_bVar, v_fz, v_frz, v_up, v_fro, v_op2, v_op1, v_opN, v_pv2, v_pv1, v_pvN, v_pvf, v_pvn, v_pvt, v_pI, v_pB, v_d1, v_d2, v_od, v_od2, r_int, r_bl, r_non, r_str, r_lst, r_tup, r_fzl, r_rep, r_dic, r_nil, r_cons, v_seq, v_seqn, v_seqr, v_nil, v_sif, v_mif, v_ite, v_sret, v_sretN, v_set, v_setM, v_sl1, v_sl2, v_bl, v_blP, v_tru, v_truM, v_opt, v_chain, v_chP, v_and, v_or, v_not, v_eNot, v_eAnd, v_andD, v_eOr, v_orD, v_aNil, v_aCons, v_lNil, v_lCons, v_par, v_parM, v_setE, v_setN, v_oN, v_oP, v_part, v_slc, v_call, v_callK, v_for, v_seqI, v_it1, v_it2, v_it3, v_rng1, v_rng1M, v_rng2, v_rng2M, v_enu, v_enuM, v_rv, v_rvM, v_zp, v_zp1, v_lc, v_lr1, v_sti, v_app, v_popR, d_sub, d_add, d_neg, d_eq, d_ne, d_lt, d_le, d_gt, d_ge, d_int, d_len, d_lenT, d_isN, d_isNN, t_bl, List.getElem?_cons_zero, List.getElem?_cons_succ, List.set_cons_zero, List.set_cons_succ, List.length_cons, List.length_nil, if_true, if_false, Bool.false_eq_true, r3, h9b]
  obtain ⟨zt, s10, h10, hB10, al2⟩ := lcS (e0 := [.val S, .val (.ref 0), .val (.lst [.int q, .int r]), .val (.int p), .val (.int q), .val (.int r), .val (.int n1), .val (.int kd), .val (.lst [.int a, .int b, .int c]), .val (.lst ((waysT q).map D.int)), x10, x11, x12, x13, x14, x15, .own (.lst [.int u0, .int u1, .int u2]), .un, .un]) (i := 10) (sl := x10) (J := Bag) (R := fun _ y => ∃ k, y = D.int k) (ds := rangeD 0 (3 : Int).toNat) (elt := (eCall 2 fn__law_pick (aCons (eVar 1) (aCons (fz (pLst (aCons (ret (D.int 0)) (aCons (eVar 5) (aCons (fz (mOp1 dNeg (bVar 5))) (aCons (ret (D.int 1)) aNil)))))) aNil)))) rfl hB9 fun x hx s hB => by
      obtain ⟨d, s', e', hd, hB'⟩ := pick_ok (xs := [.int 0, .int r, .int (-r), .int 1]) hB (show 0 < 4 by decide) (show 4 < 1000000 by decide)
      refine ⟨d, s', ?_, hB', ?_⟩
      · simp -implicitDefEqProofs only [v_ok, v_bnd, v_ret, v_eVar, v_bVar, v_fz, v_frz, v_up, v_fro, v_op2, v_op1, v_opN, v_pv2, v_pv1, v_pvN, v_pvf, v_pvn, v_pvt, v_pI, v_pB, v_d1, v_d2, v_od, v_od2, r_int, r_bl, r_non, r_str, r_lst, r_tup, r_fzl, r_rep, r_dic, r_nil, r_cons, v_seq, v_seqn, v_seqr, v_nil, v_sif, v_mif, v_ite, v_sret, v_sretN, v_set, v_setM, v_sl1, v_sl2, v_bl, v_blP, v_tru, v_truM, v_opt, v_chain, v_chP, v_and, v_or, v_not, v_eNot, v_eAnd, v_andD, v_eOr, v_orD, v_aNil, v_aCons, v_lNil, v_lCons, v_par, v_parM, v_setE, v_setN, v_oN, v_oP, v_part, v_slc, v_call, v_callK, v_for, v_seqI, v_it1, v_it2, v_it3, v_rng1, v_rng1M, v_rng2, v_rng2M, v_enu, v_enuM, v_rv, v_rvM, v_zp, v_zp1, v_lc, v_lr1, v_sti, v_app, v_popR, d_sub, d_add, d_neg, d_eq, d_ne, d_lt, d_le, d_gt, d_ge, d_int, d_len, d_lenT, d_isN, d_isNN, t_bl, List.getElem?_cons_zero, List.getElem?_cons_succ, List.set_cons_zero, List.set_cons_succ, List.length_cons, List.length_nil, if_true, if_false, Bool.false_eq_true, dn, ca2 e', v_lst, l2, l3, l4, l5, l6, Nat.zero_add, Nat.reduceAdd]
      · simp only [List.mem_cons, List.not_mem_nil, or_false] at hd
        rcases hd with h | h | h | h <;> exact ⟨_, h⟩
  obtain ⟨v0, v1, v2, rfl⟩ := three al2
  have h10b := v_lcP (ds := rangeD 0 (3 : Int).toNat) (vs := [10]) (by show (!isOwn (some x10) && true) = true; rw [n10]; rfl) (lim_le (show 3 ≤ 1000000 by decide)) h10
  have p10 : (sSet 17 (pLc (iRng1 (aCons (ret (D.int 3)) aNil)) (tgN 10) tstT (eCall 2 fn__law_pick (aCons (eVar 1) (aCons (fz (pLst (aCons (ret (D.int 0)) (aCons (eVar 5) (aCons (fz (mOp1 dNeg (bVar 5))) (aCons (ret (D.int 1)) aNil)))))) aNil))) [10])) [.val S, .val (.ref 0), .val (.lst [.int q, .int r]), .val (.int p), .val (.int q), .val (.int r), .val (.int n1), .val (.int kd), .val (.lst [.int a, .int b, .int c]), .val (.lst ((waysT q).map D.int)), x10, x11, x12, x13, x14, x15, .own (.lst [.int u0, .int u1, .int u2]), .un, .un] s9 = .ok .nx [.val S, .val (.ref 0), .val (.lst [.int q, .int r]), .val (.int p), .val (.int q), .val (.int r), .val (.int n1), .val (.int kd), .val (.lst [.int a, .int b, .int c]), .val (.lst ((waysT q).map D.int)), x10, x11, x12, x13, x14, x15, .own (.lst [.int u0, .int u1, .int u2]), .own (.lst [.int v0, .int v1, .int v2]), .un] s10 := by simp -implicitDefEqProofs only [v_ok, v_bnd, v_ret, v_eVar, v_bVar, v_fz, v_frz, v_up, v_fro, v_op2, v_op1, v_opN, v_pv2, v_pv1, v_pvN, v_pvf, v_pvn, v_pvt, v_pI, v_pB, v_d1, v_d2, v_od, v_od2, r_int, r_bl, r_non, r_str, r_lst, r_tup, r_fzl, r_rep, r_dic, r_nil, r_cons, v_seq, v_seqn, v_seqr, v_nil, v_sif, v_mif, v_ite, v_sret, v_sretN, v_set, v_setM, v_sl1, v_sl2, v_bl, v_blP, v_tru, v_truM, v_opt, v_chain, v_chP, v_and, v_or, v_not, v_eNot, v_eAnd, v_andD, v_eOr, v_orD, v_aNil, v_aCons, v_lNil, v_lCons, v_par, v_parM, v_setE, v_setN, v_oN, v_oP, v_part, v_slc, v_call, v_callK, v_for, v_seqI, v_it1, v_it2, v_it3, v_rng1, v_rng1M, v_rng2, v_rng2M, v_enu, v_enuM, v_rv, v_rvM, v_zp, v_zp1, v_lc, v_lr1, v_sti, v_app, v_popR, d_sub, d_add, d_neg, d_eq, d_ne, d_lt, d_le, d_gt, d_ge, d_int, d_len, d_lenT, d_isN, d_isNN, t_bl, List.getElem?_cons_zero, List.getElem?_cons_succ, List.set_cons_zero, List.set_cons_succ, List.length_cons, List.length_nil, if_true, if_false, Bool.false_eq_true, r3, h10b]
  obtain ⟨e11', s11, h11, z14, rfl, rfl, _⟩ := forL_ok (tg := tgN 14) (B := (sSeq (sIf (mNot (mTru (eCall 3 fn__law_are_found_right (aCons (eVar 5) (aCons (eVar 14) (aCons (fz (mOp2 dEq (bVar 14) (bVar 17))) aNil)))))) (sSeq (sRet (ret (D.bl false))) sNil) sNil) sNil))
    (fun ds e s => ∃ z14 : Sl, e = [.val S, .val (.ref 0), .val (.lst [.int q, .int r]), .val (.int p), .val (.int q), .val (.int r), .val (.int n1), .val (.int kd), .val (.lst [.int a, .int b, .int c]), .val (.lst ((waysT q).map D.int)), x10, x11, x12, x13, z14, x15, .val (.lst [.int u0, .int u1, .int u2]), .val (.lst [.int v0, .int v1, .int v2]), .un] ∧ s = s10 ∧ ∀ d ∈ ds, isF d) (fun x rr e s J => by
      obtain ⟨z14, rfl, rfl, hd⟩ := J
      obtain ⟨u, v, w, rfl⟩ := hd x (List.mem_cons_self ..)
      obtain ⟨bb, hbb⟩ := eq_3 u v w v0 v1 v2
      refine ⟨_, _, _, rfl, ?_, .val (.lst [.int u, .int v, .int w]), rfl, rfl, fun d m => hd d (List.mem_cons_of_mem _ m)⟩
      show (sSeq _ _) [.val S, .val (.ref 0), .val (.lst [.int q, .int r]), .val (.int p), .val (.int q), .val (.int r), .val (.int n1), .val (.int kd), .val (.lst [.int a, .int b, .int c]), .val (.lst ((waysT q).map D.int)), x10, x11, x12, x13, .val (.lst [.int u, .int v, .int w]), x15, .val (.lst [.int u0, .int u1, .int u2]), .val (.lst [.int v0, .int v1, .int v2]), .un] _ = _
      simp -implicitDefEqProofs only [v_ok, v_bnd, v_ret, v_eVar, v_bVar, v_fz, v_frz, v_up, v_fro, v_op2, v_op1, v_opN, v_pv2, v_pv1, v_pvN, v_pvf, v_pvn, v_pvt, v_pI, v_pB, v_d1, v_d2, v_od, v_od2, r_int, r_bl, r_non, r_str, r_lst, r_tup, r_fzl, r_rep, r_dic, r_nil, r_cons, v_seq, v_seqn, v_seqr, v_nil, v_sif, v_mif, v_ite, v_sret, v_sretN, v_set, v_setM, v_sl1, v_sl2, v_bl, v_blP, v_tru, v_truM, v_opt, v_chain, v_chP, v_and, v_or, v_not, v_eNot, v_eAnd, v_andD, v_eOr, v_orD, v_aNil, v_aCons, v_lNil, v_lCons, v_par, v_parM, v_setE, v_setN, v_oN, v_oP, v_part, v_slc, v_call, v_callK, v_for, v_seqI, v_it1, v_it2, v_it3, v_rng1, v_rng1M, v_rng2, v_rng2M, v_enu, v_enuM, v_rv, v_rvM, v_zp, v_zp1, v_lc, v_lr1, v_sti, v_app, v_popR, d_sub, d_add, d_neg, d_eq, d_ne, d_lt, d_le, d_gt, d_ge, d_int, d_len, d_lenT, d_isN, d_isNN, t_bl, List.getElem?_cons_zero, List.getElem?_cons_succ, List.set_cons_zero, List.set_cons_succ, List.length_cons, List.length_nil, if_true, if_false, Bool.false_eq_true, hbb, ca3 (found_ok hr u v w _ _), Bool.not_true]) (ds := [.lst [.int u0, .int u1, .int u2], .lst [.int v0, .int v1, .int v2], .lst [.int 0, .int 0, .int 0], .lst [.int 0, .int 0, .int r], .lst [.int 0, .int (-r), .int 1], .lst [.int r, .int 0, .int 0]]) (e := [.val S, .val (.ref 0), .val (.lst [.int q, .int r]), .val (.int p), .val (.int q), .val (.int r), .val (.int n1), .val (.int kd), .val (.lst [.int a, .int b, .int c]), .val (.lst ((waysT q).map D.int)), x10, x11, x12, x13, x14, x15, .val (.lst [.int u0, .int u1, .int u2]), .val (.lst [.int v0, .int v1, .int v2]), .un]) (s := s10)
    ⟨x14, rfl, rfl, fun d m => by
      simp only [List.mem_cons, List.not_mem_nil, or_false] at m
      rcases m with h | h | h | h | h | h <;> exact ⟨_, _, _, h⟩⟩
  have p11 : (sFor (iSeq (fz (pLst (aCons (eVar 16) (aCons (eVar 17) (aCons (fz (pLst (aCons (ret (D.int 0)) (aCons (ret (D.int 0)) (aCons (ret (D.int 0)) aNil))))) (aCons (fz (pLst (aCons (ret (D.int 0)) (aCons (ret (D.int 0)) (aCons (eVar 5) aNil))))) (aCons (fz (pLst (aCons (ret (D.int 0)) (aCons (fz (mOp1 dNeg (bVar 5))) (aCons (ret (D.int 1)) aNil))))) (aCons (fz (pLst (aCons (eVar 5) (aCons (ret (D.int 0)) (aCons (ret (D.int 0)) aNil))))) aNil))))))))) (tgN 14) (sSeq (sIf (mNot (mTru (eCall 3 fn__law_are_found_right (aCons (eVar 5) (aCons (eVar 14) (aCons (fz (mOp2 dEq (bVar 14) (bVar 17))) aNil)))))) (sSeq (sRet (ret (D.bl false))) sNil) sNil) sNil)) [.val S, .val (.ref 0), .val (.lst [.int q, .int r]), .val (.int p), .val (.int q), .val (.int r), .val (.int n1), .val (.int kd), .val (.lst [.int a, .int b, .int c]), .val (.lst ((waysT q).map D.int)), x10, x11, x12, x13, x14, x15, .own (.lst [.int u0, .int u1, .int u2]), .own (.lst [.int v0, .int v1, .int v2]), .un] s11 = .ok .nx [.val S, .val (.ref 0), .val (.lst [.int q, .int r]), .val (.int p), .val (.int q), .val (.int r), .val (.int n1), .val (.int kd), .val (.lst [.int a, .int b, .int c]), .val (.lst ((waysT q).map D.int)), x10, x11, x12, x13, z14, x15, .val (.lst [.int u0, .int u1, .int u2]), .val (.lst [.int v0, .int v1, .int v2]), .un] s11 := by simp -implicitDefEqProofs only [v_ok, v_bnd, v_ret, v_eVar, v_bVar, v_fz, v_frz, v_up, v_fro, v_op2, v_op1, v_opN, v_pv2, v_pv1, v_pvN, v_pvf, v_pvn, v_pvt, v_pI, v_pB, v_d1, v_d2, v_od, v_od2, r_int, r_bl, r_non, r_str, r_lst, r_tup, r_fzl, r_rep, r_dic, r_nil, r_cons, v_seq, v_seqn, v_seqr, v_nil, v_sif, v_mif, v_ite, v_sret, v_sretN, v_set, v_setM, v_sl1, v_sl2, v_bl, v_blP, v_tru, v_truM, v_opt, v_chain, v_chP, v_and, v_or, v_not, v_eNot, v_eAnd, v_andD, v_eOr, v_orD, v_aNil, v_aCons, v_lNil, v_lCons, v_par, v_parM, v_setE, v_setN, v_oN, v_oP, v_part, v_slc, v_call, v_callK, v_for, v_seqI, v_it1, v_it2, v_it3, v_rng1, v_rng1M, v_rng2, v_rng2M, v_enu, v_enuM, v_rv, v_rvM, v_zp, v_zp1, v_lc, v_lr1, v_sti, v_app, v_popR, d_sub, d_add, d_neg, d_eq, d_ne, d_lt, d_le, d_gt, d_ge, d_int, d_len, d_lenT, d_isN, d_isNN, t_bl, List.getElem?_cons_zero, List.getElem?_cons_succ, List.set_cons_zero, List.set_cons_succ, List.length_cons, List.length_nil, if_true, if_false, Bool.false_eq_true, dn, v_lst, l2, l3, l4, l5, l6, Nat.zero_add, Nat.reduceAdd, h11]
  obtain ⟨bd, s12, e12, hbd, hB12⟩ := pick_ok (xs := [.int 1000000000000000000000000000000, .int (-1000000000000000000000000000000)]) hB10 (show 0 < 2 by decide) (show 2 < 1000000 by decide)
  obtain ⟨n0, rfl⟩ : ∃ n0, bd = .int n0 := by
    simp only [List.mem_cons, List.not_mem_nil, or_false] at hbd
    rcases hbd with h | h <;> exact ⟨_, h⟩
  have p12 : (sSet 18 (up (eCall 2 fn__law_pick (aCons (eVar 1) (aCons (fz (pLst (aCons (fz (mOp2 dPow (ret (D.int 10)) (ret (D.int 30)))) (aCons (fz (mOp1 dNeg (fz (mOp2 dPow (ret (D.int 10)) (ret (D.int 30)))))) aNil)))) aNil))))) [.val S, .val (.ref 0), .val (.lst [.int q, .int r]), .val (.int p), .val (.int q), .val (.int r), .val (.int n1), .val (.int kd), .val (.lst [.int a, .int b, .int c]), .val (.lst ((waysT q).map D.int)), x10, x11, x12, x13, z14, x15, .val (.lst [.int u0, .int u1, .int u2]), .val (.lst [.int v0, .int v1, .int v2]), .un] s11 = .ok .nx [.val S, .val (.ref 0), .val (.lst [.int q, .int r]), .val (.int p), .val (.int q), .val (.int r), .val (.int n1), .val (.int kd), .val (.lst [.int a, .int b, .int c]), .val (.lst ((waysT q).map D.int)), x10, x11, x12, x13, z14, x15, .val (.lst [.int u0, .int u1, .int u2]), .val (.lst [.int v0, .int v1, .int v2]), .val (.int n0)] s12 := by simp -implicitDefEqProofs only [v_ok, v_bnd, v_ret, v_eVar, v_bVar, v_fz, v_frz, v_up, v_fro, v_op2, v_op1, v_opN, v_pv2, v_pv1, v_pvN, v_pvf, v_pvn, v_pvt, v_pI, v_pB, v_d1, v_d2, v_od, v_od2, r_int, r_bl, r_non, r_str, r_lst, r_tup, r_fzl, r_rep, r_dic, r_nil, r_cons, v_seq, v_seqn, v_seqr, v_nil, v_sif, v_mif, v_ite, v_sret, v_sretN, v_set, v_setM, v_sl1, v_sl2, v_bl, v_blP, v_tru, v_truM, v_opt, v_chain, v_chP, v_and, v_or, v_not, v_eNot, v_eAnd, v_andD, v_eOr, v_orD, v_aNil, v_aCons, v_lNil, v_lCons, v_par, v_parM, v_setE, v_setN, v_oN, v_oP, v_part, v_slc, v_call, v_callK, v_for, v_seqI, v_it1, v_it2, v_it3, v_rng1, v_rng1M, v_rng2, v_rng2M, v_enu, v_enuM, v_rv, v_rvM, v_zp, v_zp1, v_lc, v_lr1, v_sti, v_app, v_popR, d_sub, d_add, d_neg, d_eq, d_ne, d_lt, d_le, d_gt, d_ge, d_int, d_len, d_lenT, d_isN, d_isNN, t_bl, List.getElem?_cons_zero, List.getElem?_cons_succ, List.set_cons_zero, List.set_cons_succ, List.length_cons, List.length_nil, if_true, if_false, Bool.false_eq_true, pow30, dn, ca2 e12, v_lst, l2, l3, l4, l5, l6, Nat.zero_add, Nat.reduceAdd]
  obtain ⟨m1, s13, e13, _, hB13⟩ := with_ok (q := q) (rest := 0) hB12 q1 (by omega)
  obtain ⟨m2, s14, e14, _, hB14⟩ := with_ok (q := q) (rest := q - 1) hB13 q1 (by omega)
  obtain ⟨e15', s15, h15, z13, rfl, rfl, _⟩ := forL_ok (tg := tgN 13) (B := (sSeq (sIf (mNot (mTru (eCall 4 fn__law_is_count_right (aCons (eVar 4) (aCons (eVar 9) (aCons (eVar 13) (aCons (ret (D.bl true)) aNil))))))) (sSeq (sRet (ret (D.bl false))) sNil) sNil) sNil))
    (fun ds e s => ∃ z13 : Sl, e = [.val S, .val (.ref 0), .val (.lst [.int q, .int r]), .val (.int p), .val (.int q), .val (.int r), .val (.int n1), .val (.int kd), .val (.lst [.int a, .int b, .int c]), .val (.lst ((waysT q).map D.int)), x10, x11, x12, z13, z14, x15, .val (.lst [.int u0, .int u1, .int u2]), .val (.lst [.int v0, .int v1, .int v2]), .val (.int n0)] ∧ s = s14 ∧ ∀ d ∈ ds, ∃ k, d = .int k) (fun x rr e s J => by
      obtain ⟨z13, rfl, rfl, hd⟩ := J
      obtain ⟨k, rfl⟩ := hd x (List.mem_cons_self ..)
      refine ⟨_, _, _, rfl, ?_, .val (.int k), rfl, rfl, fun d m => hd d (List.mem_cons_of_mem _ m)⟩
      show (sSeq _ _) [.val S, .val (.ref 0), .val (.lst [.int q, .int r]), .val (.int p), .val (.int q), .val (.int r), .val (.int n1), .val (.int kd), .val (.lst [.int a, .int b, .int c]), .val (.lst ((waysT q).map D.int)), x10, x11, x12, .val (.int k), z14, x15, .val (.lst [.int u0, .int u1, .int u2]), .val (.lst [.int v0, .int v1, .int v2]), .val (.int n0)] _ = _
      simp -implicitDefEqProofs only [v_ok, v_bnd, v_ret, v_eVar, v_bVar, v_fz, v_frz, v_up, v_fro, v_op2, v_op1, v_opN, v_pv2, v_pv1, v_pvN, v_pvf, v_pvn, v_pvt, v_pI, v_pB, v_d1, v_d2, v_od, v_od2, r_int, r_bl, r_non, r_str, r_lst, r_tup, r_fzl, r_rep, r_dic, r_nil, r_cons, v_seq, v_seqn, v_seqr, v_nil, v_sif, v_mif, v_ite, v_sret, v_sretN, v_set, v_setM, v_sl1, v_sl2, v_bl, v_blP, v_tru, v_truM, v_opt, v_chain, v_chP, v_and, v_or, v_not, v_eNot, v_eAnd, v_andD, v_eOr, v_orD, v_aNil, v_aCons, v_lNil, v_lCons, v_par, v_parM, v_setE, v_setN, v_oN, v_oP, v_part, v_slc, v_call, v_callK, v_for, v_seqI, v_it1, v_it2, v_it3, v_rng1, v_rng1M, v_rng2, v_rng2M, v_enu, v_enuM, v_rv, v_rvM, v_zp, v_zp1, v_lc, v_lr1, v_sti, v_app, v_popR, d_sub, d_add, d_neg, d_eq, d_ne, d_lt, d_le, d_gt, d_ge, d_int, d_len, d_lenT, d_isN, d_isNN, t_bl, List.getElem?_cons_zero, List.getElem?_cons_succ, List.set_cons_zero, List.set_cons_succ, List.length_cons, List.length_nil, if_true, if_false, Bool.false_eq_true, ca4 (count_ok hq k _ _), Bool.not_true]) (ds := [.int m1, .int m2, .int n0]) (e := [.val S, .val (.ref 0), .val (.lst [.int q, .int r]), .val (.int p), .val (.int q), .val (.int r), .val (.int n1), .val (.int kd), .val (.lst [.int a, .int b, .int c]), .val (.lst ((waysT q).map D.int)), x10, x11, x12, x13, z14, x15, .val (.lst [.int u0, .int u1, .int u2]), .val (.lst [.int v0, .int v1, .int v2]), .val (.int n0)]) (s := s14)
    ⟨x13, rfl, rfl, fun d m => by
      simp only [List.mem_cons, List.not_mem_nil, or_false] at m
      rcases m with h | h | h <;> exact ⟨_, h⟩⟩
  have p13 : (sFor (iSeq (fz (pLst (aCons (eCall 3 fn__law_with_rest (aCons (eVar 1) (aCons (eVar 4) (aCons (ret (D.int 0)) aNil)))) (aCons (eCall 3 fn__law_with_rest (aCons (eVar 1) (aCons (eVar 4) (aCons (fz (mOp2 dSub (bVar 4) (ret (D.int 1)))) aNil)))) (aCons (eVar 18) aNil)))))) (tgN 13) (sSeq (sIf (mNot (mTru (eCall 4 fn__law_is_count_right (aCons (eVar 4) (aCons (eVar 9) (aCons (eVar 13) (aCons (ret (D.bl true)) aNil))))))) (sSeq (sRet (ret (D.bl false))) sNil) sNil) sNil)) [.val S, .val (.ref 0), .val (.lst [.int q, .int r]), .val (.int p), .val (.int q), .val (.int r), .val (.int n1), .val (.int kd), .val (.lst [.int a, .int b, .int c]), .val (.lst ((waysT q).map D.int)), x10, x11, x12, x13, z14, x15, .val (.lst [.int u0, .int u1, .int u2]), .val (.lst [.int v0, .int v1, .int v2]), .val (.int n0)] s12 = .ok .nx [.val S, .val (.ref 0), .val (.lst [.int q, .int r]), .val (.int p), .val (.int q), .val (.int r), .val (.int n1), .val (.int kd), .val (.lst [.int a, .int b, .int c]), .val (.lst ((waysT q).map D.int)), x10, x11, x12, z13, z14, x15, .val (.lst [.int u0, .int u1, .int u2]), .val (.lst [.int v0, .int v1, .int v2]), .val (.int n0)] s15 := by simp -implicitDefEqProofs only [v_ok, v_bnd, v_ret, v_eVar, v_bVar, v_fz, v_frz, v_up, v_fro, v_op2, v_op1, v_opN, v_pv2, v_pv1, v_pvN, v_pvf, v_pvn, v_pvt, v_pI, v_pB, v_d1, v_d2, v_od, v_od2, r_int, r_bl, r_non, r_str, r_lst, r_tup, r_fzl, r_rep, r_dic, r_nil, r_cons, v_seq, v_seqn, v_seqr, v_nil, v_sif, v_mif, v_ite, v_sret, v_sretN, v_set, v_setM, v_sl1, v_sl2, v_bl, v_blP, v_tru, v_truM, v_opt, v_chain, v_chP, v_and, v_or, v_not, v_eNot, v_eAnd, v_andD, v_eOr, v_orD, v_aNil, v_aCons, v_lNil, v_lCons, v_par, v_parM, v_setE, v_setN, v_oN, v_oP, v_part, v_slc, v_call, v_callK, v_for, v_seqI, v_it1, v_it2, v_it3, v_rng1, v_rng1M, v_rng2, v_rng2M, v_enu, v_enuM, v_rv, v_rvM, v_zp, v_zp1, v_lc, v_lr1, v_sti, v_app, v_popR, d_sub, d_add, d_neg, d_eq, d_ne, d_lt, d_le, d_gt, d_ge, d_int, d_len, d_lenT, d_isN, d_isNN, t_bl, List.getElem?_cons_zero, List.getElem?_cons_succ, List.set_cons_zero, List.set_cons_succ, List.length_cons, List.length_nil, if_true, if_false, Bool.false_eq_true, ca3 e13, ca3 e14, v_lst, l2, l3, l4, l5, l6, Nat.zero_add, Nat.reduceAdd, h15]
  obtain ⟨s16, e16, hB16⟩ := all_ok (q := p) hB14 hp
  have p14 : (sIf (mNot (mTru (eCall 2 fn__law_are_all_right (aCons (eVar 1) (aCons (eVar 3) aNil))))) (sSeq (sRet (ret (D.bl false))) sNil) sNil) [.val S, .val (.ref 0), .val (.lst [.int q, .int r]), .val (.int p), .val (.int q), .val (.int r), .val (.int n1), .val (.int kd), .val (.lst [.int a, .int b, .int c]), .val (.lst ((waysT q).map D.int)), x10, x11, x12, z13, z14, x15, .val (.lst [.int u0, .int u1, .int u2]), .val (.lst [.int v0, .int v1, .int v2]), .val (.int n0)] s15 = .ok .nx [.val S, .val (.ref 0), .val (.lst [.int q, .int r]), .val (.int p), .val (.int q), .val (.int r), .val (.int n1), .val (.int kd), .val (.lst [.int a, .int b, .int c]), .val (.lst ((waysT q).map D.int)), x10, x11, x12, z13, z14, x15, .val (.lst [.int u0, .int u1, .int u2]), .val (.lst [.int v0, .int v1, .int v2]), .val (.int n0)] s16 := by simp -implicitDefEqProofs only [v_ok, v_bnd, v_ret, v_eVar, v_bVar, v_fz, v_frz, v_up, v_fro, v_op2, v_op1, v_opN, v_pv2, v_pv1, v_pvN, v_pvf, v_pvn, v_pvt, v_pI, v_pB, v_d1, v_d2, v_od, v_od2, r_int, r_bl, r_non, r_str, r_lst, r_tup, r_fzl, r_rep, r_dic, r_nil, r_cons, v_seq, v_seqn, v_seqr, v_nil, v_sif, v_mif, v_ite, v_sret, v_sretN, v_set, v_setM, v_sl1, v_sl2, v_bl, v_blP, v_tru, v_truM, v_opt, v_chain, v_chP, v_and, v_or, v_not, v_eNot, v_eAnd, v_andD, v_eOr, v_orD, v_aNil, v_aCons, v_lNil, v_lCons, v_par, v_parM, v_setE, v_setN, v_oN, v_oP, v_part, v_slc, v_call, v_callK, v_for, v_seqI, v_it1, v_it2, v_it3, v_rng1, v_rng1M, v_rng2, v_rng2M, v_enu, v_enuM, v_rv, v_rvM, v_zp, v_zp1, v_lc, v_lr1, v_sti, v_app, v_popR, d_sub, d_add, d_neg, d_eq, d_ne, d_lt, d_le, d_gt, d_ge, d_int, d_len, d_lenT, d_isN, d_isNN, t_bl, List.getElem?_cons_zero, List.getElem?_cons_succ, List.set_cons_zero, List.set_cons_succ, List.length_cons, List.length_nil, if_true, if_false, Bool.false_eq_true, ca2 e16, Bool.not_true]
  have p15 : (sRet (eAnd (eCall 4 fn__law_is_count_right (aCons (eVar 4) (aCons (eVar 9) (aCons (eVar 6) (aCons (ret (D.bl true)) aNil))))) (eCall 3 fn__law_are_found_right (aCons (eVar 4) (aCons (eVar 8) (aCons (ret (D.bl false)) aNil)))))) [.val S, .val (.ref 0), .val (.lst [.int q, .int r]), .val (.int p), .val (.int q), .val (.int r), .val (.int n1), .val (.int kd), .val (.lst [.int a, .int b, .int c]), .val (.lst ((waysT q).map D.int)), x10, x11, x12, z13, z14, x15, .val (.lst [.int u0, .int u1, .int u2]), .val (.lst [.int v0, .int v1, .int v2]), .val (.int n0)] s16 = .ok (.rt (.bl true)) [.val S, .val (.ref 0), .val (.lst [.int q, .int r]), .val (.int p), .val (.int q), .val (.int r), .val (.int n1), .val (.int kd), .val (.lst [.int a, .int b, .int c]), .val (.lst ((waysT q).map D.int)), x10, x11, x12, z13, z14, x15, .val (.lst [.int u0, .int u1, .int u2]), .val (.lst [.int v0, .int v1, .int v2]), .val (.int n0)] s16 := by simp -implicitDefEqProofs only [v_ok, v_bnd, v_ret, v_eVar, v_bVar, v_fz, v_frz, v_up, v_fro, v_op2, v_op1, v_opN, v_pv2, v_pv1, v_pvN, v_pvf, v_pvn, v_pvt, v_pI, v_pB, v_d1, v_d2, v_od, v_od2, r_int, r_bl, r_non, r_str, r_lst, r_tup, r_fzl, r_rep, r_dic, r_nil, r_cons, v_seq, v_seqn, v_seqr, v_nil, v_sif, v_mif, v_ite, v_sret, v_sretN, v_set, v_setM, v_sl1, v_sl2, v_bl, v_blP, v_tru, v_truM, v_opt, v_chain, v_chP, v_and, v_or, v_not, v_eNot, v_eAnd, v_andD, v_eOr, v_orD, v_aNil, v_aCons, v_lNil, v_lCons, v_par, v_parM, v_setE, v_setN, v_oN, v_oP, v_part, v_slc, v_call, v_callK, v_for, v_seqI, v_it1, v_it2, v_it3, v_rng1, v_rng1M, v_rng2, v_rng2M, v_enu, v_enuM, v_rv, v_rvM, v_zp, v_zp1, v_lc, v_lr1, v_sti, v_app, v_popR, d_sub, d_add, d_neg, d_eq, d_ne, d_lt, d_le, d_gt, d_ge, d_int, d_len, d_lenT, d_isN, d_isNN, t_bl, List.getElem?_cons_zero, List.getElem?_cons_succ, List.set_cons_zero, List.set_cons_succ, List.length_cons, List.length_nil, if_true, if_false, Bool.false_eq_true, ca4 (count_ok hq n1 _ _), ca3 (found_ok hq a b c _ _)]
  have ei : ini 19 [S] = [.val S, .un, .un, .un, .un, .un, .un, .un, .un, .un, .un, .un, .un, .un, .un, .un, .un, .un, .un] := rfl
  refine ⟨s16, v_fn (e' := [.val S, .val (.ref 0), .val (.lst [.int q, .int r]), .val (.int p), .val (.int q), .val (.int r), .val (.int n1), .val (.int kd), .val (.lst [.int a, .int b, .int c]), .val (.lst ((waysT q).map D.int)), x10, x11, x12, z13, z14, x15, .val (.lst [.int u0, .int u1, .int u2]), .val (.lst [.int v0, .int v1, .int v2]), .val (.int n0)]) ?_⟩
  show m_law (ini 19 [S]) [] = _
  rw [ei]
  unfold m_law
  rw [v_seq, p1, v_ok, v_seqn, v_seq, p2, v_ok, v_seqn, v_seq, p3, v_ok, v_seqn, v_seq, p4, v_ok, v_seqn, v_seq, p5, v_ok, v_seqn, v_seq, p6, v_ok, v_seqn, v_seq, p7, v_ok, v_seqn, v_seq, p8, v_ok, v_seqn, v_seq, p9, v_ok, v_seqn, v_seq, p10, v_ok, v_seqn, v_seq, p11, v_ok, v_seqn, v_seq, p12, v_ok, v_seqn, v_seq, p13, v_ok, v_seqn, v_seq, p14, v_ok, v_seqn, v_seq, p15]
  rfl
end R83
open PySem PySem.W PyProof.Rows
set_option maxHeartbeats 0 in
theorem PySem.Challenge.cw_roundrows_k83_whole_circles_and_roots_holds : PySem.Challenge.rw_roundrows_k83_whole_circles_and_roots.Holds := by
  w_on; o_law; k_head; (case hw => w_witness2)
  k_fill
  refine PD.walk (l := PySem.Challenge.rw_roundrows_k83_whole_circles_and_roots) (n := 63) (k := 5) (x := "script") (fn := R83.fn_law) rfl (by decide) rfl ⟨rfl, by decide, by decide⟩ (fun w h Y => PySem.W.kIn_of Y) ?F R83.law_true
  case F =>
    intro w mg h KX G base _ _
    refine' R83.all_mk KX G ?a0 ?l0 ?c0 ?k0 ?a1 ?l1 ?c1 ?k1 ?a2 ?l2 ?c2 ?k2 ?a3 ?l3 ?c3 ?k3 ?a4 ?l4 ?c4 ?k4 ?a5 ?l5 ?c5 ?k5 ?a6 ?l6 ?c6 ?k6 ?a7 ?l7 ?c7 ?k7 ?a8 ?l8 ?c8 ?k8 ?a9 ?l9 ?c9 ?k9 ?a10 ?l10 ?c10 ?k10 ?a11 ?l11 ?c11 ?k11 ?a12 ?l12 ?c12 ?k12 ?a13 ?l13 ?c13 ?k13 ?a14 ?l14 ?c14 ?k14 ?a15 ?l15 ?c15 ?k15 ?a16 ?l16 ?c16 ?k16 ?a17 ?l17 ?c17 ?k17 ?a18 ?l18 ?c18 ?k18 ?a19 ?l19 ?c19 ?k19 ?a20 ?l20 ?c20 ?k20 ?a21 ?l21 ?c21 ?k21 ?a22 ?l22 ?c22 ?k22 ?a23 ?l23 ?c23 ?k23 ?z0 ?z1 ?z2 ?z3 ?z4 ?z5 ?z6 ?z7 ?z8 ?z9 base
    (case a0 => k_is); (case l0 => k_is); (case c0 => k_is); (case k0 => k_is); (case a1 => k_is); (case l1 => k_is); (case c1 => k_is); (case k1 => k_is); (case a2 => k_is); (case l2 => k_is); (case c2 => k_is); (case k2 => k_is); (case a3 => k_is); (case l3 => k_is); (case c3 => k_is); (case k3 => k_is); (case a4 => k_is); (case l4 => k_is); (case c4 => k_is); (case k4 => k_is); (case a5 => k_is); (case l5 => k_is); (case c5 => k_is); (case k5 => k_is); (case a6 => k_is); (case l6 => k_is); (case c6 => k_is); (case k6 => k_is); (case a7 => k_is); (case l7 => k_is); (case c7 => k_is); (case k7 => k_is); (case a8 => k_is); (case l8 => k_is); (case c8 => k_is); (case k8 => k_is); (case a9 => k_is); (case l9 => k_is); (case c9 => k_is); (case k9 => k_is); (case a10 => k_is); (case l10 => k_is); (case c10 => k_is); (case k10 => k_is); (case a11 => k_is); (case l11 => k_is); (case c11 => k_is); (case k11 => k_is); (case a12 => k_is); (case l12 => k_is); (case c12 => k_is); (case k12 => k_is); (case a13 => k_is); (case l13 => k_is); (case c13 => k_is); (case k13 => k_is); (case a14 => k_is); (case l14 => k_is); (case c14 => k_is); (case k14 => k_is); (case a15 => k_is); (case l15 => k_is); (case c15 => k_is); (case k15 => k_is); (case a16 => k_is); (case l16 => k_is); (case c16 => k_is); (case k16 => k_is); (case a17 => k_is); (case l17 => k_is); (case c17 => k_is); (case k17 => k_is); (case a18 => k_is); (case l18 => k_is); (case c18 => k_is); (case k18 => k_is); (case a19 => k_is); (case l19 => k_is); (case c19 => k_is); (case k19 => k_is); (case a20 => k_is); (case l20 => k_is); (case c20 => k_is); (case k20 => k_is); (case a21 => k_is); (case l21 => k_is); (case c21 => k_is); (case k21 => k_is); (case a22 => k_is); (case l22 => k_is); (case c22 => k_is); (case k22 => k_is); (case a23 => k_is); (case l23 => k_is); (case c23 => k_is); (case k23 => k_is); (case z0 => k_is); (case z1 => k_is); (case z2 => k_is); (case z3 => k_is); (case z4 => k_is); (case z5 => k_is); (case z6 => k_is); (case z7 => k_is); (case z8 => k_is); (case z9 => k_is)
