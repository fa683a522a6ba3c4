import PyProof.Rows.All
import Wide.All
import OpenK.AllK
import Wide.FinOn
import HandS.ForMost
import HandS.ForExc
import HandS.TryMany
import HandS.ExcInit
import HandS.ExcField
import HandS.IsInst
import HandS.Gcd
import HandS.Wide
import HandS.Style
import HandS.Conv
import HandS.TupAny
import HandS.TupLe
import HandS.EndBits
import HandS.Star
import HandS.Iter
import PySem.Challenge.RW_scoutroads_k26_bases_and_neighbors_of_th
set_option Elab.async false
set_option linter.all false
set_option maxRecDepth 100000
set_option maxHeartbeats 4000000
/-! A small language of data: its values, objects, terms and what they do (own work). -/
namespace MP
open PySem L2

/-- values: tuples are trees (rol: a list that is only read), objects that change are labels -/
inductive A where
  | non | bl (b : Bool) | int (i : Int) | str (x : Str) | tup (xs : List A) | rol (xs : List A) | ref (l : Nat)
/-- objects; fdc: a dict while a loop walks it -/
inductive Ob where
  | lst (xs : List A) | dct (kvs : List (Key × A)) | fdc (kvs : List (Key × A))
abbrev Sto := List Ob
abbrev En := List (Option A)

inductive Rs (α : Type) where
  | ok (a : α) (st : Sto) | exc (c : Str) (fs : List (Str × A)) (st : Sto) | bad
def Rs.bind {α β : Type} (r : Rs α) (f : α → Sto → Rs β) : Rs β := match r with
  | .ok a st => f a st
  | .exc c fs st => .exc c fs st
  | .bad => .bad
/-- what a statement comes to -/
inductive SO where
  | nx (env : En) (st : Sto) | rt (a : A) (st : Sto) | bk (env : En) (st : Sto) | ct (env : En) (st : Sto)
  | ex (c : Str) (fs : List (Str × A)) (env : En) (st : Sto) | bad

/-- what a loop walks -/
inductive It where
  | lst (l : Nat) | tup (xs : List A) | rng (lo : Int) (n : Nat) | zip (a b : It) | enum (a : It) | keys (l : Nat)
def keyA : Key → A
  | .inl i => .int i
  | .inr x => .str x
def It.at : It → Nat → Sto → Option (Option A)
  | .keys l, i, st => match st[l]? with
    | some (.fdc kvs) => some (kvs[i]?.map fun p => keyA p.1)
    | _ => none
  | .lst l, i, st => match st[l]? with
    | some (.lst xs) => some xs[i]?
    | _ => none
  | .tup xs, i, _ => some xs[i]?
  | .rng lo n, i, _ => some (if i < n then some (.int (lo + (i : Int))) else none)
  | .zip a b, i, st => match a.at i st with
    | some (some x) => match b.at i st with
      | some (some y) => some (some (.tup [x, y]))
      | some none => some none
      | none => none
    | some none => some none
    | none => none
  | .enum a, i, st => match a.at i st with
    | some (some x) => some (some (.tup [.int (i : Int), x]))
    | some none => some none
    | none => none
def It.len : It → Sto → Nat
  | .keys l, st => match st[l]? with
    | some (.fdc kvs) => kvs.length
    | _ => 0
  | .lst l, st => match st[l]? with
    | some (.lst xs) => xs.length
    | _ => 0
  | .tup xs, _ => xs.length
  | .rng _ n, _ => n
  | .zip a _, st => a.len st
  | .enum a, st => a.len st

/-- targets -/
inductive T where
  | name (i : Nat) | tup (ts : List T)
mutual
def T.put : T → A → En → Sto → Option En
  | .name i, a, env, _ => some (env.set i (some a))
  | .tup ts, .tup xs, env, st => T.puts ts xs env st
  | .tup ts, .ref l, env, st => match st[l]? with
    | some (.lst xs) => T.puts ts xs env st
    | _ => none
  | .tup _, _, _, _ => none
def T.puts : List T → List A → En → Sto → Option En
  | [], [], env, _ => some env
  | t :: ts, x :: xs, env, st => match t.put x env st with
    | some env' => T.puts ts xs env' st
    | none => none
  | _, _, _, _ => none
end

mutual
inductive E where
  | var (i : Nat) | c (a : A)
  | p1 (f : A → Sto → Rs A) (a : E)
  | p2 (f : A → A → Sto → Rs A) (a b : E)
  | pn (f : List A → Sto → Rs A) (es : Es)
  | cond (t a b : E) | and_ (a b : E) | or_ (a b : E)
  | chain (f g : A → A → Sto → Rs A) (a b c : E)
  | call (f : Nat) (perm : List Nat) (es : Es)
  | comp (own : List Nat) (it : List A → Sto → Rs It) (es : Es) (t : T) (c e : E)
  | lock (i : Nat) (e : E)
inductive Es where
  | nil | cons (e : E) (es : Es) | star (e : E) (es : Es)
end
mutual
inductive S where
  | asg (t : T) (e : E) | setIx (o i e : E) | expr (e : E) | ret (e : E) | pass | brk | cont
  | ite (c : E) (a b : Ss) | whl (fuel : Nat) (c : E) (b : Ss)
  | for_ (it : List A → Sto → Rs It) (es : Es) (t : T) (b : Ss)
  | rais (c : Str) (fs : List Str) (es : Es)
  | tri (b : Ss) (hs : Hs)
inductive Ss where
  | nil | cons (s : S) (ss : Ss)
inductive Hs where
  | nil | cons (c : Str) (att : Option (Nat × Nat × List Str)) (e : E) (hs : Hs)
end

/-- does the clause that names c' take an error of the class c? -/
def hit (c' c : Str) : Bool := decide (c = c') || decide (c' = "RoadError")
def asB (a : A) (st : Sto) : Rs Bool := match a with
  | .bl b => .ok b st
  | _ => .bad
def wipeE (env : En) : List Nat → En
  | [] => env
  | i :: r => wipeE (env.set i none) r
def permA (perm : List Nat) (xs : List A) : List A := match perm with
  | [] => xs
  | _ => perm.map fun i => xs.getD i .non
def lenOk (n : Nat) : Bool := decide (n ≤ 1000000)

/-- the turns of a comprehension -/
def compL (it : It) (body : A → Sto → Rs (Option A)) : Nat → Nat → List A → Sto → Rs (List A)
  | 0, _, _, _ => .bad
  | m + 1, i, acc, st => match it.at i st with
    | none => .bad
    | some none => .ok acc st
    | some (some x) => match body x st with
      | .ok (some y) st' => compL it body m (i + 1) (acc ++ [y]) st'
      | .ok none st' => compL it body m (i + 1) acc st'
      | _ => .bad
abbrev CallT := Nat → List A → Sto → Rs A
def itemsOf (x : A) (st : Sto) : Option (List A) := match x with
  | .ref l => match st[l]? with
    | some (.lst xs) => some xs
    | _ => none
  | .tup xs => some xs
  | .rol xs => some xs
  | _ => none
mutual
def evE (C : CallT) : E → En → Sto → Rs A
  | .var i, env, st => match env[i]? with
    | some (some a) => .ok a st
    | _ => .bad
  | .c a, _, st => .ok a st
  | .p1 f a, env, st => (evE C a env st).bind f
  | .p2 f a b, env, st => (evE C a env st).bind fun x st1 => (evE C b env st1).bind fun y st2 => f x y st2
  | .pn f es, env, st => (evEs C es env st).bind f
  | .cond t a b, env, st => ((evE C t env st).bind asB).bind fun k st1 => if k then evE C a env st1 else evE C b env st1
  | .and_ a b, env, st => ((evE C a env st).bind asB).bind fun k st1 => if k then evE C b env st1 else .ok (.bl false) st1
  | .or_ a b, env, st => ((evE C a env st).bind asB).bind fun k st1 => if k then .ok (.bl true) st1 else evE C b env st1
  | .chain f g a b c, env, st => (evE C a env st).bind fun x st1 => (evE C b env st1).bind fun y st2 => ((f x y st2).bind asB).bind fun k st3 =>
      if k then (evE C c env st3).bind fun z st4 => g y z st4 else .ok (.bl false) st3
  | .call f perm es, env, st => (evEs C es env st).bind fun xs st1 => C f (permA perm xs) st1
  | .comp own itf es t c e, env, st => (evEs C es env st).bind fun xs st1 => (itf xs st1).bind fun it st2 => if lenOk (it.len st2) = false then .bad else
      (compL it (fun x st => match t.put x (wipeE env own) st with
        | some env' => ((evE C c env' st).bind asB).bind fun k st' => if k then (evE C e env' st').bind fun y st'' => .ok (some y) st'' else .ok none st'
        | none => .bad) (it.len st2 + 1) 0 [] st2).bind fun ys st3 => .ok (.ref st3.length) (st3 ++ [.lst ys])
  | .lock i e, env, st => match env[i]? with
    | some (some (.ref l)) => match st[l]? with
      | some (.dct kvs) => (evE C e env (st.set l (.fdc kvs))).bind fun a st1 => match st1[l]? with
        | some (.fdc _) => .ok a (st1.set l (.dct kvs))
        | _ => .bad
      | _ => .bad
    | _ => .bad
def evEs (C : CallT) : Es → En → Sto → Rs (List A)
  | .star e es, env, st => (evE C e env st).bind fun x st1 => match itemsOf x st1 with
    | some ys => (evEs C es env st1).bind fun xs st2 => .ok (ys ++ xs) st2
    | none => .bad
  | .nil, _, st => .ok [] st
  | .cons e es, env, st => (evE C e env st).bind fun x st1 => (evEs C es env st1).bind fun xs st2 => .ok (x :: xs) st2
end

def Rs.toS {α : Type} (r : Rs α) (env : En) (f : α → Sto → SO) : SO := match r with
  | .ok a st => f a st
  | .exc c fs st => .ex c fs env st
  | .bad => .bad
def forL (it : It) (body : A → En → Sto → SO) : Nat → Nat → En → Sto → SO
  | 0, _, _, _ => .bad
  | m + 1, i, env, st => match it.at i st with
    | none => .bad
    | some none => .nx env st
    | some (some x) => match body x env st with
      | .nx env' st' => forL it body m (i + 1) env' st'
      | .ct env' st' => forL it body m (i + 1) env' st'
      | .bk env' st' => .nx env' st'
      | r => r
def whlL (c : En → Sto → Rs A) (body : En → Sto → SO) : Nat → En → Sto → SO
  | 0, _, _ => .bad
  | m + 1, env, st => ((c env st).bind asB).toS env fun k st1 => if k then (match body env st1 with
      | .nx env' st' => whlL c body m env' st'
      | .ct env' st' => whlL c body m env' st'
      | .bk env' st' => .nx env' st'
      | r => r) else .nx env st1
def putA (kvs : List (Key × A)) (k : Key) (v : A) : List (Key × A) :=
  if (kvs.any fun kv => decide (kv.1 = k)) = true then kvs.map (fun kv => if kv.1 = k then (kv.1, v) else kv) else kvs ++ [(k, v)]
def keyOf : A → Option Key
  | .int i => some (.inl i)
  | .str x => some (.inr x)
  | _ => none
def setAt (o i v : A) (st : Sto) : Option Sto := match o with
  | .ref l => match st[l]? with
    | some (.lst xs) => match i with
      | .int k => match ixN xs.length k with
        | some j => some (st.set l (.lst (xs.set j v)))
        | none => none
      | _ => none
    | some (.dct kvs) => match keyOf i with
      | some k => if kvs.length < 1000000 then some (st.set l (.dct (putA kvs k v))) else none
      | none => none
    | _ => none
  | _ => none
mutual
def evS (C : CallT) : S → En → Sto → SO
  | .asg t e, env, st => (evE C e env st).toS env fun a st1 => match t.put a env st1 with
    | some env' => .nx env' st1
    | none => .bad
  | .setIx o i e, env, st => (evE C e env st).toS env fun v st1 => (evE C o env st1).toS env fun ov st2 => (evE C i env st2).toS env fun iv st3 => match setAt ov iv v st3 with
    | some st4 => .nx env st4
    | none => .bad
  | .expr e, env, st => (evE C e env st).toS env fun _ st1 => .nx env st1
  | .ret e, env, st => (evE C e env st).toS env fun a st1 => .rt a st1
  | .pass, env, st => .nx env st
  | .brk, env, st => .bk env st
  | .cont, env, st => .ct env st
  | .ite c a b, env, st => ((evE C c env st).bind asB).toS env fun k st1 => if k then evSs C a env st1 else evSs C b env st1
  | .whl fuel c b, env, st => whlL (evE C c) (fun env st => evSs C b env st) fuel env st
  | .for_ itf es t b, env, st => (evEs C es env st).toS env fun xs st1 => (itf xs st1).toS env fun it st2 =>
      forL it (fun x env st => match t.put x env st with
        | some env' => evSs C b env' st
        | none => .bad) (it.len st2 + 1) 0 env st2
  | .rais c fs es, env, st => (evEs C es env st).toS env fun xs st1 => if fs.length = xs.length then .ex c (fs.zip xs) env st1 else .bad
  | .tri b hs, env, st => match evSs C b env st with
    | .ex c fs env' st' => evHs C hs c fs env' st'
    | r => r
def evSs (C : CallT) : Ss → En → Sto → SO
  | .nil, env, st => .nx env st
  | .cons s ss, env, st => match evS C s env st with
    | .nx env' st' => evSs C ss env' st'
    | r => r
def evHs (C : CallT) : Hs → Str → List (Str × A) → En → Sto → SO
  | .nil, c, fs, env, st => .ex c fs env st
  | .cons c' att e hs, c, fs, env, st => if hit c' c = true then (match att with
      | none => (match evE C e env st with
        | .ok a st1 => .rt a st1
        | _ => .bad)
      | some (i, n, fl) => if env.length = n ∧ fs.map (·.1) = fl then (match evE C e (env.set i none ++ fs.map fun p => some p.2) st with
        | .ok a st1 => .rt a st1
        | _ => .bad) else .bad) else evHs C hs c fs env st
end
end MP

/-! How the small language's data lie in the abstract heap; the reading of its terms (own work). -/
namespace MP
open PySem PySem.Spec PyProof.Rows L2

/-- a list that is only read -/
def RoL (K : PySem.W.Frag) (H : Hp) (a : Addr) (xs : List V) : Prop :=
  (∃ o, H a = some (.frz o (.lst xs))) ∨
    ∃ (o : Obj) (its : Array Value) (n : Nat), K.lookup a = some o ∧ o.cls = .type "list" ∧ o.dict = none ∧ o.data = .seq its n ∧ its.size ≤ sizeLine ∧ Vals xs its.toList
theorem RoL.sq {K : PySem.W.Frag} {H : Hp} {a : Addr} {xs : List V} (h : RoL K H a xs) : SqL K H a xs := by
  rcases h with h | h
  · exact .inl (.inr h)
  · exact .inr h

mutual
inductive VR (K : PySem.W.Frag) (m : List Addr) (H : Hp) : A → V → Prop
  | non : VR K m H .non .non
  | bl (b : Bool) : VR K m H (.bl b) (.bl b)
  | int (i : Int) : VR K m H (.int i) (.int i)
  | str (x : Str) : VR K m H (.str x) (.str x)
  | tup {a : Addr} {xs : List A} {vs : List V} : SqT K H a vs → VRs K m H xs vs → VR K m H (.tup xs) (.ref a)
  | rol {a : Addr} {xs : List A} {vs : List V} : RoL K H a vs → VRs K m H xs vs → VR K m H (.rol xs) (.ref a)
  | ref {l : Nat} {a : Addr} : m[l]? = some a → VR K m H (.ref l) (.ref a)
inductive VRs (K : PySem.W.Frag) (m : List Addr) (H : Hp) : List A → List V → Prop
  | nil : VRs K m H [] []
  | cons {x : A} {v : V} {xs : List A} {vs : List V} : VR K m H x v → VRs K m H xs vs → VRs K m H (x :: xs) (v :: vs)
end
/-- what is read and stays -/
structure Stb (K : PySem.W.Frag) (H H' : Hp) : Prop where
  t : ∀ a xs, SqT K H a xs → SqT K H' a xs
  l : ∀ a xs, RoL K H a xs → RoL K H' a xs
theorem Stb.refl {K : PySem.W.Frag} {H : Hp} : Stb K H H := ⟨fun _ _ h => h, fun _ _ h => h⟩
theorem Stb.trans {K : PySem.W.Frag} {H H1 H2 : Hp} (a : Stb K H H1) (b : Stb K H1 H2) : Stb K H H2 := ⟨fun x xs h => b.t x xs (a.t x xs h), fun x xs h => b.l x xs (a.l x xs h)⟩
section
variable {K : PySem.W.Frag} {m m' : List Addr} {H H' : Hp}
mutual
theorem VR.mono (s : Stb K H H') (e : ∀ (l : Nat) (a : Addr), m[l]? = some a → m'[l]? = some a) : ∀ {x : A} {v : V}, VR K m H x v → VR K m' H' x v
  | _, _, .non => .non
  | _, _, .bl b => .bl b
  | _, _, .int i => .int i
  | _, _, .str x => .str x
  | _, _, .tup h hs => .tup (s.t _ _ h) (VRs.mono s e hs)
  | _, _, .rol h hs => .rol (s.l _ _ h) (VRs.mono s e hs)
  | _, _, .ref h => .ref (e _ _ h)
theorem VRs.mono (s : Stb K H H') (e : ∀ (l : Nat) (a : Addr), m[l]? = some a → m'[l]? = some a) : ∀ {xs : List A} {vs : List V}, VRs K m H xs vs → VRs K m' H' xs vs
  | _, _, .nil => .nil
  | _, _, .cons h hs => .cons (VR.mono s e h) (VRs.mono s e hs)
end
theorem VRs.length : ∀ {xs : List A} {vs : List V}, VRs K m H xs vs → xs.length = vs.length
  | _, _, .nil => rfl
  | _, _, .cons _ t => by simp [VRs.length t]
theorem VRs.get : ∀ {xs : List A} {vs : List V} {i : Nat} {x : A}, VRs K m H xs vs → xs[i]? = some x → ∃ v, vs[i]? = some v ∧ VR K m H x v
  | _, _, _, _, .nil, e => by simp at e
  | _, _, 0, _, .cons r _, e => by simp at e; subst e; exact ⟨_, rfl, r⟩
  | _, _, i + 1, x, .cons _ t, e => by
    obtain ⟨v, h1, h2⟩ := VRs.get (i := i) (x := x) t (by simpa using e)
    exact ⟨v, by simpa using h1, h2⟩
theorem VRs.getV : ∀ {xs : List A} {vs : List V} {i : Nat} {v : V}, VRs K m H xs vs → vs[i]? = some v → ∃ x, xs[i]? = some x ∧ VR K m H x v
  | _, _, _, _, .nil, e => by simp at e
  | _, _, 0, _, .cons r _, e => by simp at e; subst e; exact ⟨_, rfl, r⟩
  | _, _, i + 1, x, .cons _ t, e => by
    obtain ⟨v, h1, h2⟩ := VRs.getV (i := i) (v := x) t (by simpa using e)
    exact ⟨v, by simpa using h1, h2⟩
theorem VRs.append : ∀ {xs ys : List A} {vs ws : List V}, VRs K m H xs vs → VRs K m H ys ws → VRs K m H (xs ++ ys) (vs ++ ws)
  | _, _, _, _, .nil, s => s
  | _, _, _, _, .cons r t, s => .cons r (VRs.append t s)
theorem VRs.take : ∀ {xs : List A} {vs : List V} (n : Nat), VRs K m H xs vs → VRs K m H (xs.take n) (vs.take n)
  | _, _, 0, _ => .nil
  | _, _, _ + 1, .nil => .nil
  | _, _, n + 1, .cons r t => .cons r (VRs.take n t)
theorem VRs.drop : ∀ {xs : List A} {vs : List V} (n : Nat), VRs K m H xs vs → VRs K m H (xs.drop n) (vs.drop n)
  | _, _, 0, r => r
  | _, _, _ + 1, .nil => .nil
  | _, _, n + 1, .cons _ t => VRs.drop n t
theorem VRs.set {x : A} {v : V} (r : VR K m H x v) : ∀ {xs : List A} {vs : List V} (i : Nat), VRs K m H xs vs → VRs K m H (xs.set i x) (vs.set i v)
  | _, _, _, .nil => .nil
  | _, _, 0, .cons _ t => .cons r t
  | _, _, i + 1, .cons q t => .cons q (VRs.set r i t)
theorem VRs.reverse : ∀ {xs : List A} {vs : List V}, VRs K m H xs vs → VRs K m H xs.reverse vs.reverse
  | _, _, .nil => .nil
  | _, _, .cons r t => by
    rw [List.reverse_cons, List.reverse_cons]
    exact (VRs.reverse t).append (.cons r .nil)
theorem VRs.dropLast : ∀ {xs : List A} {vs : List V}, VRs K m H xs vs → VRs K m H xs.dropLast vs.dropLast := fun {xs vs} h => by
  rw [List.dropLast_eq_take, List.dropLast_eq_take, h.length]
  exact h.take _
theorem VRs.eraseIdx : ∀ {xs : List A} {vs : List V} (i : Nat), VRs K m H xs vs → VRs K m H (xs.eraseIdx i) (vs.eraseIdx i)
  | _, _, _, .nil => .nil
  | _, _, 0, .cons _ t => t
  | _, _, i + 1, .cons q t => .cons q (VRs.eraseIdx i t)
theorem VR.int_inv {i : Int} {v : V} (h : VR K m H (.int i) v) : v = .int i := by cases h; rfl
theorem VR.bl_inv {i : Bool} {v : V} (h : VR K m H (.bl i) v) : v = .bl i := by cases h; rfl
theorem VR.str_inv {i : Str} {v : V} (h : VR K m H (.str i) v) : v = .str i := by cases h; rfl
theorem VR.non_inv {v : V} (h : VR K m H .non v) : v = .non := by cases h; rfl
theorem VRs.one_inv {x : A} {vs : List V} (h : VRs K m H [x] vs) : ∃ v, vs = [v] ∧ VR K m H x v := by
  cases h with
  | cons r t => cases t; exact ⟨_, rfl, r⟩
theorem VRs.two_inv {x y : A} {vs : List V} (h : VRs K m H [x, y] vs) : ∃ v w, vs = [v, w] ∧ VR K m H x v ∧ VR K m H y w := by
  cases h with
  | cons r t =>
    obtain ⟨w, rfl, q⟩ := t.one_inv
    exact ⟨_, _, rfl, r, q⟩
theorem VRs.ints : ∀ (ns : List Int) {vs : List V}, VRs K m H (ns.map A.int) vs → vs = ns.map V.int
  | [], _, .nil => rfl
  | n :: ns, _, .cons r t => by
    rw [r.int_inv, VRs.ints ns t]
    rfl
theorem VRs.of_ints : ∀ (ns : List Int), VRs K m H (ns.map A.int) (ns.map V.int)
  | [] => .nil
  | n :: ns => .cons (.int n) (VRs.of_ints ns)
end

/-- how an object lies -/
def OR (K : PySem.W.Frag) (m : List Addr) (H : Hp) (a : Addr) : Ob → Prop
  | .lst xs => ∃ vs, H a = some (.lst vs) ∧ VRs K m H xs vs
  | .dct kvs => ∃ ws, H a = some (.dK ws) ∧ kvs.map (·.1) = ws.map (·.1) ∧ VRs K m H (kvs.map (·.2)) (ws.map (·.2))
  | .fdc kvs => ∃ od ws, H a = some (.frz od (.dK ws)) ∧ kvs.map (·.1) = ws.map (·.1) ∧ VRs K m H (kvs.map (·.2)) (ws.map (·.2))
structure Rel (K : PySem.W.Frag) (m : List Addr) (H : Hp) (st : Sto) : Prop where
  inj : ∀ (i j : Nat) (a : Addr), m[i]? = some a → m[j]? = some a → i = j
  len : m.length = st.length
  obj : ∀ (l : Nat) (a : Addr) (o : Ob), m[l]? = some a → st[l]? = some o → OR K m H a o
section
variable {K : PySem.W.Frag} {m : List Addr} {H : Hp} {st : Sto}
theorem Rel.at (R : Rel K m H st) {l : Nat} {o : Ob} (h : st[l]? = some o) : ∃ a, m[l]? = some a ∧ OR K m H a o := by
  have hl : l < m.length := by
    rw [R.len]
    exact (List.getElem?_eq_some_iff.mp h).1
  exact ⟨m[l], by simp [hl], R.obj l m[l] o (by simp [hl]) h⟩
theorem Rel.has (R : Rel K m H st) {l : Nat} {a : Addr} (h : m[l]? = some a) : ∃ o, st[l]? = some o ∧ OR K m H a o := by
  have hl : l < st.length := by
    rw [← R.len]
    exact (List.getElem?_eq_some_iff.mp h).1
  exact ⟨st[l], by simp [hl], R.obj l a _ h (by simp [hl])⟩
theorem Rel.lstAt (R : Rel K m H st) {l : Nat} {a : Addr} {xs : List A} (h : st[l]? = some (.lst xs)) (ha : m[l]? = some a) : ∃ vs, H a = some (.lst vs) ∧ VRs K m H xs vs := R.obj l a _ ha h
/-- an address of ours is tracked, and it is no tuple -/
theorem Rel.live (R : Rel K m H st) {a : Addr} (h : a ∈ m) : ∃ o, H a = some o ∧ (∀ xs, o ≠ .tup xs) ∧ (∀ ob xs, o ≠ .frz ob (.tup xs)) ∧ ∀ ob xs, o ≠ .frz ob (.lst xs) := by
  obtain ⟨l, hl⟩ := List.mem_iff_getElem?.mp h
  obtain ⟨o, ho, q⟩ := R.has hl
  cases o with
  | lst xs =>
    obtain ⟨vs, e, _⟩ := q
    exact ⟨_, e, (fun _ z => by cases z), (fun _ _ z => by cases z), (fun _ _ z => by cases z)⟩
  | dct kvs =>
    obtain ⟨ws, e, _⟩ := q
    exact ⟨_, e, (fun _ z => by cases z), (fun _ _ z => by cases z), (fun _ _ z => by cases z)⟩
  | fdc kvs =>
    obtain ⟨od, ws, e, _⟩ := q
    exact ⟨_, e, (fun _ z => by cases z), (fun _ _ z => by cases z), (fun _ _ z => by cases z)⟩
end
structure Post (K : PySem.W.Frag) (m : List Addr) (H : Hp) (m' : List Addr) (H' : Hp) (st' : Sto) : Prop where
  ex : ∃ k, m' = m ++ k
  fr : ∀ a o, H a = some o → a ∉ m → H' a = some o
  fz : ∀ a o u, H a = some (.frz o u) → H' a = some (.frz o u)
  nw : ∀ a, a ∈ m' → a ∉ m → H a = none
  rel : Rel K m' H' st'
section
variable {K : PySem.W.Frag} {m m1 m2 : List Addr} {H H1 H2 : Hp} {st st1 st2 : Sto}
theorem Post.refl (R : Rel K m H st) : Post K m H m H st := ⟨⟨[], by simp⟩, fun _ _ h _ => h, fun _ _ _ h => h, fun a h n => absurd h n, R⟩
theorem Post.sub (p : Post K m H m1 H1 st1) {a : Addr} (h : a ∈ m) : a ∈ m1 := by
  obtain ⟨k, e⟩ := p.ex
  rw [e]
  exact List.mem_append_left _ h
theorem Post.get (p : Post K m H m1 H1 st1) : ∀ (l : Nat) (a : Addr), m[l]? = some a → m1[l]? = some a := fun l a h => by
  obtain ⟨k, e⟩ := p.ex
  rw [e, List.getElem?_append_left (List.getElem?_eq_some_iff.mp h).1]
  exact h
theorem Post.trans (p : Post K m H m1 H1 st1) (q : Post K m1 H1 m2 H2 st2) : Post K m H m2 H2 st2 := by
  obtain ⟨k1, e1⟩ := p.ex
  obtain ⟨k2, e2⟩ := q.ex
  have f : ∀ a o, H a = some o → a ∉ m → a ∉ m1 := fun a o h n z => by
    have := p.nw a z n
    rw [h] at this
    cases this
  refine ⟨⟨k1 ++ k2, by rw [e2, e1, List.append_assoc]⟩, fun a o h n => q.fr a o (p.fr a o h n) (f a o h n), fun a o u h => q.fz a o u (p.fz a o u h), fun a h n => ?_, q.rel⟩
  by_cases hm : a ∈ m1
  · exact p.nw a hm n
  · have z := q.nw a h hm
    cases e : H a with
    | none => rfl
    | some o =>
      rw [p.fr a o e n] at z
      cases z
theorem Post.stb (p : Post K m H m1 H1 st1) (R : Rel K m H st) : Stb K H H1 := by
  constructor
  · intro a xs h
    rcases h with (h | ⟨o, h⟩) | h
    · refine .inl (.inl (p.fr a _ h fun z => ?_))
      obtain ⟨o, e, n, _⟩ := R.live z
      rw [h] at e
      exact n xs (Option.some.inj e).symm
    · exact .inl (.inr ⟨o, p.fz a _ _ h⟩)
    · exact .inr h
  · intro a xs h
    rcases h with ⟨o, h⟩ | h
    · exact .inl ⟨o, p.fz a _ _ h⟩
    · exact .inr h
theorem Post.vr (p : Post K m H m1 H1 st1) (R : Rel K m H st) {x : A} {v : V} (h : VR K m H x v) : VR K m1 H1 x v := VR.mono (p.stb R) p.get h
theorem Post.vrs (p : Post K m H m1 H1 st1) (R : Rel K m H st) {x : List A} {v : List V} (h : VRs K m H x v) : VRs K m1 H1 x v := VRs.mono (p.stb R) p.get h
theorem OR.mono {a : Addr} {o : Ob} {m' : List Addr} {H' : Hp} (s : Stb K H H') (e : ∀ (l : Nat) (a : Addr), m[l]? = some a → m'[l]? = some a) (ha : H' a = H a) (h : OR K m H a o) : OR K m' H' a o := by
  cases o with
  | lst xs =>
    obtain ⟨vs, q, r⟩ := h
    exact ⟨vs, ha.trans q, VRs.mono s e r⟩
  | dct kvs =>
    obtain ⟨ws, q, k, r⟩ := h
    exact ⟨ws, ha.trans q, k, VRs.mono s e r⟩
  | fdc kvs =>
    obtain ⟨od, ws, q, k, r⟩ := h
    exact ⟨od, ws, ha.trans q, k, VRs.mono s e r⟩
/-- a thing that is no object of ours is laid at p -/
theorem Post.lay (R : Rel K m H st) {p : Addr} {o : HO} (hp : H p = none) : Post K m H m (upd H p o) st := by
  have hm : p ∉ m := fun z => by
    obtain ⟨o, e, _⟩ := R.live z
    rw [hp] at e
    cases e
  have fr : ∀ a u, H a = some u → upd H p o a = some u := fun a u h => by
    rw [upd_ne (ne_of_none h hp)]
    exact h
  have s : Stb K H (upd H p o) := by
    constructor
    · intro a xs h
      rcases h with (h | ⟨o, h⟩) | h
      · exact .inl (.inl (fr _ _ h))
      · exact .inl (.inr ⟨o, fr _ _ h⟩)
      · exact .inr h
    · intro a xs h
      rcases h with ⟨o, h⟩ | h
      · exact .inl ⟨o, fr _ _ h⟩
      · exact .inr h
  refine ⟨⟨[], by simp⟩, fun a u h _ => fr a u h, fun a o u h => fr a _ h, fun a h n => absurd h n, R.inj, R.len, fun l a u h1 h2 => (R.obj l a u h1 h2).mono s (fun _ _ h => h) ?_⟩
  obtain ⟨v, e, _⟩ := R.live (List.mem_of_getElem? h1)
  exact upd_ne (ne_of_none e hp)
/-- a new object of ours at p -/
theorem Post.new (R : Rel K m H st) {p : Addr} {o : HO} {ob : Ob} (hp : H p = none) (h : OR K (m ++ [p]) (upd H p o) p ob) : Post K m H (m ++ [p]) (upd H p o) (st ++ [ob]) := by
  have hm : p ∉ m := fun z => by
    obtain ⟨o, e, _⟩ := R.live z
    rw [hp] at e
    cases e
  have P := Post.lay R (o := o) hp
  have g : ∀ (l : Nat) (a : Addr), m[l]? = some a → (m ++ [p])[l]? = some a := fun l a h => by
    rw [List.getElem?_append_left (List.getElem?_eq_some_iff.mp h).1]
    exact h
  refine ⟨⟨[p], rfl⟩, P.fr, P.fz, fun a h n => ?_, fun i j a h1 h2 => ?_, by rw [List.length_append, List.length_append, R.len]; rfl, fun l a u h1 h2 => ?_⟩
  · rcases List.mem_append.mp h with z | z
    · exact absurd z n
    · have : a = p := by simpa using z
      rw [this]
      exact hp
  · rw [List.getElem?_append] at h1 h2
    split at h1
    · split at h2
      · exact R.inj i j a h1 h2
      · have hj : a = p := by
          have := List.mem_of_getElem? h2
          simpa using this
        exact absurd (hj ▸ List.mem_of_getElem? h1) hm
    · have hi : a = p := by
        have := List.mem_of_getElem? h1
        simpa using this
      split at h2
      · exact absurd (hi ▸ List.mem_of_getElem? h2) hm
      · have e1 : i - m.length < 1 := by
          have := (List.getElem?_eq_some_iff.mp h1).1
          simpa using this
        have e2 : j - m.length < 1 := by
          have := (List.getElem?_eq_some_iff.mp h2).1
          simpa using this
        omega
  · rw [List.getElem?_append] at h1 h2
    split at h1
    · rename_i hl
      rw [R.len] at hl
      rw [if_pos hl] at h2
      have hH : upd H p o a = H a := by
        obtain ⟨v, e, _⟩ := R.live (List.mem_of_getElem? h1)
        exact upd_ne (ne_of_none e hp)
      exact (R.obj l a u h1 h2).mono (P.stb R) g hH
    · rename_i hl
      rw [R.len] at hl
      rw [if_neg hl] at h2
      have hi : a = p := by
        have := List.mem_of_getElem? h1
        simpa using this
      have hu : u = ob := by
        have := List.mem_of_getElem? h2
        simpa using this
      rw [hi, hu]
      exact h
/-- an object of ours is changed -/
theorem Post.mut (R : Rel K m H st) {l : Nat} {p : Addr} {o : HO} {ob : Ob} (hp : m[l]? = some p) (h : OR K m (upd H p o) p ob) (hnf : ∀ ob u, H p ≠ some (.frz ob u)) : Post K m H m (upd H p o) (st.set l ob) := by
  have hm : p ∈ m := List.mem_of_getElem? hp
  have fr : ∀ a u, H a = some u → a ∉ m → upd H p o a = some u := fun a u h n => by
    rw [upd_ne (show a ≠ p from fun z => n (by rw [z]; exact hm))]
    exact h
  have fz : ∀ a ob u, H a = some (.frz ob u) → upd H p o a = some (.frz ob u) := fun a ob u h => by
    rw [upd_ne (show a ≠ p from fun z => hnf ob u (by rw [← z]; exact h))]
    exact h
  obtain ⟨oo, eo, n1, n2⟩ := R.live hm
  have s : Stb K H (upd H p o) := by
    constructor
    · intro a xs h
      rcases h with (h | ⟨u, h⟩) | h
      · refine .inl (.inl ?_)
        rw [upd_ne (fun z => by rw [z, eo] at h; exact n1 _ (Option.some.inj h))]
        exact h
      · exact .inl (.inr ⟨u, fz _ _ _ h⟩)
      · exact .inr h
    · intro a xs h
      rcases h with ⟨u, h⟩ | h
      · exact .inl ⟨u, fz _ _ _ h⟩
      · exact .inr h
  refine ⟨⟨[], by simp⟩, fr, fz, fun a h n => absurd h n, R.inj, by rw [List.length_set]; exact R.len, fun i a u h1 h2 => ?_⟩
  by_cases hi : i = l
  · subst hi
    rw [hp] at h1
    cases h1
    have hl : i < st.length := by
      rw [← R.len]
      exact (List.getElem?_eq_some_iff.mp hp).1
    rw [List.getElem?_set_self hl] at h2
    cases h2
    exact h
  · rw [List.getElem?_set_ne (Ne.symm hi)] at h2
    refine (R.obj i a u h1 h2).mono s (fun _ _ h => h) (upd_ne fun z => hi ?_)
    exact R.inj i l p (z ▸ h1) hp
end

/-! ### exceptions, slots -/
/-- the exception of the class c with the fields fs -/
def XR (K : PySem.W.Frag) (cx : Str → Option Addr) (m : List Addr) (H : Hp) (c : Str) (fs : List (Str × A)) (cls : Value) (d : Option Addr) : Prop :=
  ∃ C, cx c = some C ∧ cls = .ref C ∧ ((fs = [] ∧ d = none) ∨ ∃ dd ws, d = some dd ∧ H dd = some (.xd ws) ∧ ∀ (k : Nat) (p : Str × A), fs[k]? = some p → ∃ v, ws.lookup p.1 = some v ∧ VR K m H p.2 v)
/-- an exception that an except suite holds: at ea, its dict at dd, its name's slot j; the fields fs stand behind the n slots -/
structure Xg where
  ea : Addr
  dd : Addr
  j : Nat
  n : Nat
  fs : List Str
def ER (K : PySem.W.Frag) (γ : Option Xg) (σ : L2.St) (H : Hp) (m : List Addr) (env : En) : Prop :=
  (∀ (i : Nat) (a : A), env[i]? = some (some a) → (∃ v, σ[i]? = some (some v) ∧ VR K m H a v ∧ ∀ g, γ = some g → i < g.n) ∨ ∃ g, γ = some g ∧ g.n ≤ i ∧ ∃ ws v f, H g.dd = some (.xd ws) ∧ g.fs[i - g.n]? = some f ∧ ws.lookup f = some v ∧ VR K m H a v) ∧
  (∀ g, γ = some g → σ[g.j]? = some (some (.ref g.ea))) ∧ (γ = none → env.length = σ.length)
section
variable {K : PySem.W.Frag} {γ : Option Xg} {σ : L2.St} {m m' : List Addr} {H H' : Hp} {env : En} {st st' : Sto}
theorem ER.mono (R : Rel K m H st) (p : Post K m H m' H' st') (h : ER K γ σ H m env) : ER K γ σ H' m' env := by
  refine ⟨fun i a e => ?_, h.2⟩
  rcases h.1 i a e with ⟨v, e1, r, hg⟩ | ⟨g, eg, hn, ws, v, f, e1, e2, e3, r⟩
  · exact .inl ⟨v, e1, p.vr R r, hg⟩
  · refine .inr ⟨g, eg, hn, ws, v, f, p.fr _ _ e1 (fun z => ?_), e2, e3, p.vr R r⟩
    obtain ⟨l, hl⟩ := List.mem_iff_getElem?.mp z
    obtain ⟨o, ho, q⟩ := R.has hl
    cases o with
    | lst xs =>
      obtain ⟨vs, e, _⟩ := q
      rw [e1] at e
      cases e
    | dct kvs =>
      obtain ⟨ws, e, _⟩ := q
      rw [e1] at e
      cases e
    | fdc kvs =>
      obtain ⟨od, ws, e, _⟩ := q
      rw [e1] at e
      cases e
end

/-! ### the reading -/
section
variable {α β : Type}
def Out (K : PySem.W.Frag) (cx : Str → Option Addr) (W : WX) (σ : L2.St) (m : List Addr) (H : Hp) (r : Rs α) (Q : α → List Addr → Hp → Sto → Prop) : Prop := match r with
  | .ok a st' => ∀ H' m', Post K m H m' H' st' → Q a m' H' st'
  | .exc c fs st' => ∀ cls d H' m', Post K m H m' H' st' → XR K cx m' H' c fs cls d → W cls d σ H'
  | .bad => False
variable {K : PySem.W.Frag} {cx : Str → Option Addr} {W : WX} {σ : L2.St} {m m1 : List Addr} {H H1 : Hp} {r : Rs α} {f : α → Sto → Rs β} {st1 : Sto}
theorem Out.shift {Q : α → List Addr → Hp → Sto → Prop} (h : Out K cx W σ m H r Q) (p : Post K m H m1 H1 st1) : Out K cx W σ m1 H1 r Q := by
  cases r with
  | ok a st => exact fun H' m' q => h H' m' (p.trans q)
  | exc c fs st => exact fun cls d H' m' q x => h cls d H' m' (p.trans q) x
  | bad => exact h
theorem Out.bind {Q : β → List Addr → Hp → Sto → Prop} (h : Out K cx W σ m H (r.bind f) Q) : Out K cx W σ m H r fun a m1 H1 st1 => Out K cx W σ m1 H1 (f a st1) Q := by
  cases r with
  | ok a st => exact fun H' m' q => Out.shift (r := f a st) h q
  | exc c fs st => exact h
  | bad => exact h
theorem Out.mono {Q Q' : α → List Addr → Hp → Sto → Prop} (h : Out K cx W σ m H r Q) (w : ∀ a m' H' st', Post K m H m' H' st' → Q a m' H' st' → Q' a m' H' st') : Out K cx W σ m H r Q' := by
  cases r with
  | ok a st => exact fun H' m' q => w _ _ _ _ q (h H' m' q)
  | exc c fs st => exact h
  | bad => exact h
theorem Out.now {a : α} {st : Sto} {Q : α → List Addr → Hp → Sto → Prop} (R : Rel K m H st) (h : Out K cx W σ m H (.ok a st) Q) : Q a m H st := h H m (Post.refl R)
end
/-- where a reading stands -/
structure RA (K : PySem.W.Frag) (γ : Option Xg) (m : List Addr) (σ : L2.St) (H : Hp) (env : En) (st : Sto) : Prop where
  rel : Rel K m H st
  er : ER K γ σ H m env
theorem RA.post {K : PySem.W.Frag} {γ : Option Xg} {m m' : List Addr} {σ : L2.St} {H H' : Hp} {env : En} {st st' : Sto} (ra : RA K γ m σ H env st) (p : Post K m H m' H' st') : RA K γ m' σ H' env st' := ⟨p.rel, ra.er.mono ra.rel p⟩
section
variable (K : PySem.W.Frag) (cx : Str → Option Addr) (γ : Option Xg) (W : WX)
def VQ (Q : VK) : A → List Addr → Hp → Sto → Prop := fun a m' H' _ => ∀ v, VR K m' H' a v → Q v H'
def AQ (Q : List V → Hp → Prop) : List A → List Addr → Hp → Sto → Prop := fun a m' H' _ => ∀ v, VRs K m' H' a v → Q v H'
def tI (ev : En → Sto → Rs A) : TE := fun σ H Q => ∃ m env st, RA K γ m σ H env st ∧ Out K cx W σ m H (ev env st) (VQ K Q)
def tIA (ev : En → Sto → Rs (List A)) : TA := fun σ H Q => ∃ m env st, RA K γ m σ H env st ∧ Out K cx W σ m H (ev env st) (AQ K Q)
def tIT (ev : En → Sto → Rs A) : TT := fun σ H Q => ∃ m env st, RA K γ m σ H env st ∧ Out K cx W σ m H ((ev env st).bind asB) fun k _ H' _ => Q k H'
end
theorem _root_.L2.PE.weak {X : Cx} {e : Expr} {t t' : TE} (h : PE X e t) (w : ∀ σ H Q, t' σ H Q → t σ H Q) : PE X e t' := ⟨fun pins s σ H Q I q => h.run pins s σ H Q I (w σ H Q q)⟩
theorem _root_.L2.PT.weak {X : Cx} {e : Expr} {t t' : TT} (h : PT X e t) (w : ∀ σ H Q, t' σ H Q → t σ H Q) : PT X e t' := ⟨fun pins s σ H Q I q => h.run pins s σ H Q I (w σ H Q q)⟩
theorem _root_.L2.PW.weak {X : Cx} {e : Expr} {t t' : TT} (h : PW X e t) (w : ∀ σ H Q, t' σ H Q → t σ H Q) : PW X e t' := ⟨fun wh pins s σ H Q I q => h.run wh pins s σ H Q I (w σ H Q q)⟩
theorem _root_.L2.PA.weak {X : Cx} {e : List Expr} {t t' : TA} (h : PA X e t) (w : ∀ σ H Q, t' σ H Q → t σ H Q) : PA X e t' := ⟨fun pos pins s σ H Q I q => h.run pos pins s σ H Q I (w σ H Q q)⟩
theorem _root_.L2.PS.weak {X : Cx} {e : Stmt} {t t' : TS} (h : PS X e t) (w : ∀ D σ H, t' D σ H → t D σ H) : PS X e t' := ⟨fun pins s σ H D I q => h.run pins s σ H D I (w D σ H q)⟩
theorem _root_.L2.PSs.weak {X : Cx} {e : List Stmt} {t t' : TS} (h : PSs X e t) (w : ∀ D σ H, t' D σ H → t D σ H) : PSs X e t' := ⟨fun pins s σ H D I q => h.run pins s σ H D I (w D σ H q)⟩
end MP

/-! Primitive operations of the small language, and the rules for its expressions (own work). -/
namespace MP
open PySem PySem.Spec PyProof.Rows L2

def GoodP (K : PySem.W.Frag) (m : List Addr) (H : Hp) (res : Rs A) (t : VK → Prop) : Prop := match res with
  | .bad => True
  | .exc _ _ _ => False
  | .ok c st' => ∀ Q : VK, (∀ H' m' v, Post K m H m' H' st' → VR K m' H' c v → Q v H') → t Q
def UnS (K : PySem.W.Frag) (f : A → Sto → Rs A) (r : V → Hp → VK → Prop) : Prop :=
  ∀ (m : List Addr) (H : Hp) (st : Sto) (a : A) (x : V), Rel K m H st → VR K m H a x → GoodP K m H (f a st) (r x H)
def OpS (K : PySem.W.Frag) (f : A → A → Sto → Rs A) (r : R2) : Prop :=
  ∀ (m : List Addr) (H : Hp) (st : Sto) (a b : A) (x y : V), Rel K m H st → VR K m H a x → VR K m H b y → GoodP K m H (f a b st) (r x y H)
def CallS (K : PySem.W.Frag) (f : List A → Sto → Rs A) (r : List V → Hp → VK → Prop) : Prop :=
  ∀ (m : List Addr) (H : Hp) (st : Sto) (as : List A) (xs : List V), Rel K m H st → VRs K m H as xs → GoodP K m H (f as st) (r xs H)
theorem GoodP.use {K : PySem.W.Frag} {cx : Str → Option Addr} {W : WX} {σ : L2.St} {m : List Addr} {H : Hp} {res : Rs A} {t : VK → Prop} {Q : VK} (g : GoodP K m H res t) (h : Out K cx W σ m H res (VQ K Q)) : t Q := by
  cases res with
  | bad => exact h.elim
  | exc c fs st => exact g.elim
  | ok c st => exact g Q fun H' m' v p vr => h H' m' p v vr
theorem OpS.or {K : PySem.W.Frag} {f : A → A → Sto → Rs A} {r r' : R2} (h : OpS K f r) : OpS K f (fun x y H Q => r x y H Q ∨ r' x y H Q) := fun m H st a b x y R va vb => by
  have := h m H st a b x y R va vb
  revert this
  unfold GoodP
  cases f a b st with
  | bad => exact id
  | exc _ _ _ => exact id
  | ok c st' => exact fun g Q q => .inl (g Q q)

section
variable {X : Cx} {cx : Str → Option Addr} {γ : Option Xg} {W : WX} {C : CallT}
abbrev PX (X : Cx) (cx : Str → Option Addr) (γ : Option Xg) (W : WX) (C : CallT) (e : Expr) (t : E) : Prop := PE X e (tI X.K cx γ W (evE C t))
abbrev PXT (X : Cx) (cx : Str → Option Addr) (γ : Option Xg) (W : WX) (C : CallT) (e : Expr) (t : E) : Prop := PT X e (tIT X.K cx γ W (evE C t))
abbrev PXW (X : Cx) (cx : Str → Option Addr) (γ : Option Xg) (W : WX) (C : CallT) (e : Expr) (t : E) : Prop := PW X e (tIT X.K cx γ W (evE C t))
abbrev PXA (X : Cx) (cx : Str → Option Addr) (γ : Option Xg) (W : WX) (C : CallT) (es : List Expr) (t : Es) : Prop := PA X es (tIA X.K cx γ W (evEs C t))

/-! ### names, constants -/
theorem px_var (i : Nat) {x : Str} {pos : Pos} (hN : X.N[i]? = some x := by rfl) (hv : Vis X.env.scope x := by first | exact Or.inl rfl | exact Or.inr (Or.inl rfl) | exact Or.inr (Or.inr rfl)) (hg : ∀ g, γ = some g → i < g.n := by intro g h; cases h)
    (hd : (x == ("__debug__" : Str)) = false := by decide) (hcd : (x == ("__classdict__" : Str)) = false := by decide) : PX X cx γ W C (.Name x pos) (.var i) :=
  (pe_var hN hv hd hcd).weak fun σ H Q ⟨m, env, st, ra, h⟩ => by
    rw [evE] at h
    split at h
    · rename_i a e
      rcases ra.er.1 i a e with ⟨v, e1, r, _⟩ | ⟨g, eg, hn, _⟩
      · exact ⟨v, e1, h.now ra.rel v r⟩
      · have := hg g eg
        omega
    · exact h.elim
theorem px_c {e : Expr} {a : A} {v : V} (he : PE X e (tC v)) (hv : ∀ m H, VR X.K m H a v) : PX X cx γ W C e (.c a) :=
  he.weak fun σ H Q ⟨m, env, st, ra, h⟩ => by
    rw [evE] at h
    exact h.now ra.rel v (hv m H)
theorem px_int {i : Int} {j : Nat} {pos : Pos} : PX X cx γ W C (.Constant (.int i) j pos) (.c (.int i)) := px_c pe_int fun _ _ => .int i
theorem px_bl {b : Bool} {j : Nat} {pos : Pos} : PX X cx γ W C (.Constant (.bool b) j pos) (.c (.bl b)) := px_c pe_bl fun _ _ => .bl b
theorem px_non {j : Nat} {pos : Pos} : PX X cx γ W C (.Constant .none j pos) (.c .non) := px_c pe_non fun _ _ => .non
theorem px_str {x : Str} {j : Nat} {pos : Pos} : PX X cx γ W C (.Constant (.str x) j pos) (.c (.str x)) := px_c pe_str fun _ _ => .str x
/-- a module's constant -/
theorem px_glob {x : Str} {a : A} {v : V} {u : Value} {pos : Pos} (hv : ∀ m H, VR X.K m H a v) (r : RelV v u) (hm : X.mg x = some u) (hg : Gl X x := by rfl) (hd : (x == ("__debug__" : Str)) = false := by decide) : PX X cx γ W C (.Name x pos) (.c a) := px_c (pe_glob hg hm r hd) hv

/-! ### arguments -/
theorem pxa_nil : PXA X cx γ W C [] .nil := pa_nil.weak fun σ H Q ⟨m, env, st, ra, h⟩ => by
  rw [evEs] at h
  exact h.now ra.rel [] .nil
theorem pxa_cons {e : Expr} {es : List Expr} {t : E} {ts : Es} (ha : PX X cx γ W C e t) (hr : PXA X cx γ W C es ts) (hs : starEach (e :: es) X.env = (false, eval e X.env) :: starEach es X.env := by rfl) : PXA X cx γ W C (e :: es) (.cons t ts) :=
  (pa_cons ha hr hs).weak fun σ H Q ⟨m, env, st, ra, h⟩ => by
    rw [evEs] at h
    refine ⟨m, env, st, ra, h.bind.mono fun x m1 H1 st1 p1 q1 v vv => ⟨m1, env, st1, ra.post p1, q1.bind.mono fun xs m2 H2 st2 p2 q2 vs vvs => ?_⟩⟩
    exact q2.now p2.rel _ (.cons (p2.vr p1.rel vv) vvs)
theorem pxa_tI {es : Es} {f : List A → Sto → Rs A} {r : List V → Hp → VK → Prop} (hs : CallS X.K f r) : ∀ σ H Q, tI X.K cx γ W (evE C (.pn f es)) σ H Q → tIA X.K cx γ W (evEs C es) σ H fun vs H1 => r vs H1 Q := fun σ H Q ⟨m, env, st, ra, h⟩ => by
  rw [evE] at h
  exact ⟨m, env, st, ra, h.bind.mono fun xs m1 H1 st1 p1 q1 vs vvs => (hs m1 H1 st1 xs vs p1.rel vvs).use q1⟩

/-! ### operators -/
theorem p2_run {f : A → A → Sto → Rs A} {r : R2} {a b : E} (hs : OpS X.K f r) : ∀ σ H Q, tI X.K cx γ W (evE C (.p2 f a b)) σ H Q → tOp r (tI X.K cx γ W (evE C a)) (tI X.K cx γ W (evE C b)) σ H Q := fun σ H Q ⟨m, env, st, ra, h⟩ => by
  rw [evE] at h
  refine ⟨m, env, st, ra, h.bind.mono fun x m1 H1 st1 p1 q1 v vv => ⟨m1, env, st1, ra.post p1, q1.bind.mono fun y m2 H2 st2 p2 q2 w vw => ?_⟩⟩
  exact (hs m2 H2 st2 x y v w p2.rel (p2.vr p1.rel vv) vw).use q2
theorem p1_run {f : A → Sto → Rs A} {r : V → Hp → VK → Prop} {a : E} (hs : UnS X.K f r) : ∀ σ H Q, tI X.K cx γ W (evE C (.p1 f a)) σ H Q → tUn r (tI X.K cx γ W (evE C a)) σ H Q := fun σ H Q ⟨m, env, st, ra, h⟩ => by
  rw [evE] at h
  exact ⟨m, env, st, ra, h.bind.mono fun x m1 H1 st1 p1 q1 v vv => (hs m1 H1 st1 x v p1.rel vv).use q1⟩
theorem asB_bl {K : PySem.W.Frag} {W : WX} {σ : L2.St} {m : List Addr} {H : Hp} {a : A} {st : Sto} {v : V} {Q : Bool → List Addr → Hp → Sto → Prop} (R : Rel K m H st) (vr : VR K m H a v) (h : Out K cx W σ m H (asB a st) Q) : ∃ k, a = .bl k ∧ v = .bl k ∧ Q k m H st := by
  cases a with
  | bl k => exact ⟨k, rfl, vr.bl_inv, h.now R⟩
  | _ => exact h.elim
theorem tIT_tI {ev : En → Sto → Rs A} {σ : L2.St} {H : Hp} {Q : Bool → Hp → Prop} : tIT X.K cx γ W ev σ H Q → tI X.K cx γ W ev σ H fun x H' => ∃ k, x = .bl k ∧ Q k H' := fun ⟨m, env, st, ra, h⟩ =>
  ⟨m, env, st, ra, h.bind.mono fun a m1 H1 st1 p1 q1 v vv => by
    obtain ⟨k, _, e, q⟩ := asB_bl p1.rel vv q1
    exact ⟨k, e, q⟩⟩
section
variable {a b : Expr} {ta tb : E} {pos : Pos} {f : A → A → Sto → Rs A} {r : R2}
theorem px_op {op : Operator} (ho : OpR X (binaryOp op) r) (hs : OpS X.K f r) (ha : PX X cx γ W C a ta) (hb : PX X cx γ W C b tb) : PX X cx γ W C (.BinOp a op b pos) (.p2 f ta tb) := (pe_op ho ha hb).weak (p2_run hs)
theorem px_un {op : UnaryOp} {f : A → Sto → Rs A} {r : V → Hp → VK → Prop} (ho : UnR X (unaryOp op) r) (hs : UnS X.K f r) (ha : PX X cx γ W C a ta) : PX X cx γ W C (.UnaryOp op a pos) (.p1 f ta) := (pe_un ho ha).weak (p1_run hs)
theorem px_cmp {op : CmpOp} (ho : OpR X (compareOp op) r) (hs : OpS X.K f r) (ha : PX X cx γ W C a ta) (hb : PX X cx γ W C b tb) (hm : behindInMarks op b = false) : PX X cx γ W C (.Compare a [op] [b] pos) (.p2 f ta tb) := (pe_cmpR ho ha hb hm).weak (p2_run hs)
theorem pxt_cmp {op : CmpOp} (ho : OpR X (compareOp op) r) (hs : OpS X.K f r) (ha : PX X cx γ W C a ta) (hb : PX X cx γ W C b tb) (hm : behindInMarks op b = false) : PXT X cx γ W C (.Compare a [op] [b] pos) (.p2 f ta tb) :=
  (pt_cmpR ho ha hb hm).weak fun σ H Q q => p2_run hs σ H _ (tIT_tI q)
theorem pxt_val {e : Expr} {t : E} (h : PX X cx γ W C e t) (he : ∀ whole, isTrue e X.env whole = (do let v ← whole; standAt e.pos; holding [v] (truthy v)) := by intro _; rfl) : PXT X cx γ W C e t :=
  (pt_val h he).weak fun σ H Q q => tIT_tI q
theorem chain_run {f g : A → A → Sto → Rs A} {r r' : R2} {a b c : E} (hs : OpS X.K f r) (hs' : OpS X.K g r') : ∀ σ H Q, tI X.K cx γ W (evE C (.chain f g a b c)) σ H Q → tChain r r' (tI X.K cx γ W (evE C a)) (tI X.K cx γ W (evE C b)) (tI X.K cx γ W (evE C c)) σ H Q := fun σ H Q ⟨m, env, st, ra, h⟩ => by
  rw [evE] at h
  refine ⟨m, env, st, ra, h.bind.mono fun x m1 H1 st1 p1 q1 v vv => ⟨m1, env, st1, ra.post p1, q1.bind.mono fun y m2 H2 st2 p2 q2 w vw => ?_⟩⟩
  have g := hs m2 H2 st2 x y v w p2.rel (p2.vr p1.rel vv) vw
  have q3 := q2.bind.bind
  refine g.use (q3.mono fun z m3 H3 st3 p3 q4 u vu => ?_)
  obtain ⟨k, _, e, q5⟩ := asB_bl p3.rel vu q4
  refine ⟨k, e, ?_⟩
  cases k with
  | false => exact q5.now p3.rel _ (.bl false)
  | true =>
    refine ⟨m3, env, st3, ((ra.post p1).post p2).post p3, q5.bind.mono fun z' m4 H4 st4 p4 q6 w' vw' => ?_⟩
    exact (hs' m4 H4 st4 y z' w w' p4.rel (p4.vr p3.rel (p3.vr p2.rel vw)) vw').use q6
end
section
variable {a b c : Expr} {ta tb tc : E} {pos : Pos} {f g : A → A → Sto → Rs A} {r r' : R2}
theorem px_chain {op op' : CmpOp} (ho : OpR X (compareOp op) r) (hs : OpS X.K f r) (ho' : OpR X (compareOp op') r') (hs' : OpS X.K g r') (ha : PX X cx γ W C a ta) (hb : PX X cx γ W C b tb) (hc : PX X cx γ W C c tc) (hm : lastMarks [op, op'] [b, c] = false := by rfl) :
    PX X cx γ W C (.Compare a [op, op'] [b, c] pos) (.chain f g ta tb tc) := (pe_chain ho ho' ha hb hc hm).weak (chain_run hs hs')
theorem pxt_chain {op op' : CmpOp} (ho : OpR X (compareOp op) r) (hs : OpS X.K f r) (ho' : OpR X (compareOp op') r') (hs' : OpS X.K g r') (ha : PX X cx γ W C a ta) (hb : PX X cx γ W C b tb) (hc : PX X cx γ W C c tc) (hm : lastMarks [op, op'] [b, c] = false := by rfl) :
    PXT X cx γ W C (.Compare a [op, op'] [b, c] pos) (.chain f g ta tb tc) := (pt_chain ho ho' ha hb hc hm).weak fun σ H Q q => chain_run hs hs' σ H _ (tIT_tI q)

/-! ### and, or, not -/
theorem _root_.MP.Rs.bind_assoc {α β δ : Type} (r : Rs α) (f : α → Sto → Rs β) (g : β → Sto → Rs δ) : (r.bind f).bind g = r.bind fun a st => (f a st).bind g := by
  cases r <;> rfl
theorem pxw_one {op : BoolOp} (ha : PXT X cx γ W C a ta) : PXW X cx γ W C (.BoolOp op [a] pos) ta := by
  cases op with
  | And => exact pw_and1 ha
  | Or => exact pw_or1 ha
theorem tAnd_run {a b : E} : ∀ σ H Q, tIT X.K cx γ W (evE C (.and_ a b)) σ H Q → tAnd (tIT X.K cx γ W (evE C a)) (tIT X.K cx γ W (evE C b)) σ H Q := fun σ H Q ⟨m, env, st, ra, h⟩ => by
  rw [evE, Rs.bind_assoc] at h
  refine ⟨m, env, st, ra, h.bind.mono fun k m1 H1 st1 p1 q1 => ?_⟩
  cases k with
  | true => exact ⟨m1, env, st1, ra.post p1, q1⟩
  | false => exact (show Out _ _ _ _ _ _ (.ok false st1) _ from q1).now p1.rel
theorem tOr_run {a b : E} : ∀ σ H Q, tIT X.K cx γ W (evE C (.or_ a b)) σ H Q → tOr (tIT X.K cx γ W (evE C a)) (tIT X.K cx γ W (evE C b)) σ H Q := fun σ H Q ⟨m, env, st, ra, h⟩ => by
  rw [evE, Rs.bind_assoc] at h
  refine ⟨m, env, st, ra, h.bind.mono fun k m1 H1 st1 p1 q1 => ?_⟩
  cases k with
  | false => exact ⟨m1, env, st1, ra.post p1, q1⟩
  | true => exact (show Out _ _ _ _ _ _ (.ok true st1) _ from q1).now p1.rel
theorem pxw_and {rest : List Expr} (ha : PXT X cx γ W C a ta) (hb : PXW X cx γ W C (.BoolOp .And (b :: rest) pos) tb) : PXW X cx γ W C (.BoolOp .And (a :: b :: rest) pos) (.and_ ta tb) := (pw_and ha hb).weak tAnd_run
theorem pxw_or {rest : List Expr} (ha : PXT X cx γ W C a ta) (hb : PXW X cx γ W C (.BoolOp .Or (b :: rest) pos) tb) : PXW X cx γ W C (.BoolOp .Or (a :: b :: rest) pos) (.or_ ta tb) := (pw_or ha hb).weak tOr_run
theorem pxt_w {e : Expr} {t : E} (h : PXW X cx γ W C e t) : PXT X cx γ W C e t := h.pt
theorem px_one {op : BoolOp} (ha : PX X cx γ W C a ta) : PX X cx γ W C (.BoolOp op [a] pos) ta := pe_one ha
theorem px_and {rest : List Expr} (ha : PX X cx γ W C a ta) (hb : PX X cx γ W C (.BoolOp .And (b :: rest) pos) tb) : PX X cx γ W C (.BoolOp .And (a :: b :: rest) pos) (.and_ ta tb) :=
  (pe_and ha hb).weak fun σ H Q ⟨m, env, st, ra, h⟩ => by
    rw [evE] at h
    refine ⟨m, env, st, ra, h.bind.bind.mono fun x m1 H1 st1 p1 q1 v vv => ?_⟩
    obtain ⟨k, _, e, q2⟩ := asB_bl p1.rel vv q1
    refine ⟨k, e, ?_⟩
    cases k with
    | true => exact ⟨m1, env, st1, ra.post p1, q2⟩
    | false => exact q2.now p1.rel _ (.bl false)
theorem px_or {rest : List Expr} (ha : PX X cx γ W C a ta) (hb : PX X cx γ W C (.BoolOp .Or (b :: rest) pos) tb) : PX X cx γ W C (.BoolOp .Or (a :: b :: rest) pos) (.or_ ta tb) :=
  (pe_or ha hb).weak fun σ H Q ⟨m, env, st, ra, h⟩ => by
    rw [evE] at h
    refine ⟨m, env, st, ra, h.bind.bind.mono fun x m1 H1 st1 p1 q1 v vv => ?_⟩
    obtain ⟨k, _, e, q2⟩ := asB_bl p1.rel vv q1
    refine ⟨k, e, ?_⟩
    cases k with
    | false => exact ⟨m1, env, st1, ra.post p1, q2⟩
    | true => exact q2.now p1.rel _ (.bl true)
def fNot (a : A) (st : Sto) : Rs A := match a with
  | .bl b => .ok (.bl (!b)) st
  | _ => .bad
theorem px_not (ha : PX X cx γ W C a ta) : PX X cx γ W C (.UnaryOp .Not a pos) (.p1 fNot ta) := (pe_not ha).weak fun σ H Q ⟨m, env, st, ra, h⟩ => by
  rw [evE] at h
  refine ⟨m, env, st, ra, h.bind.mono fun x m1 H1 st1 p1 q1 v vv => ?_⟩
  cases x with
  | bl k => exact ⟨k, vv.bl_inv, q1.now p1.rel _ (.bl _)⟩
  | _ => exact q1.elim
theorem pxt_not (ha : PXT X cx γ W C a ta) : PXT X cx γ W C (.UnaryOp .Not a pos) (.p1 fNot ta) := (pt_not ha).weak fun σ H Q ⟨m, env, st, ra, h⟩ => by
  rw [evE] at h
  refine ⟨m, env, st, ra, ?_⟩
  have e : ((evE C ta env st).bind fNot).bind asB = ((evE C ta env st).bind asB).bind fun k st1 => .ok (!k) st1 := by
    cases evE C ta env st with
    | ok x st1 => cases x <;> rfl
    | exc _ _ _ => rfl
    | bad => rfl
  rw [e] at h
  exact h.bind.mono fun k m1 H1 st1 p1 q1 => q1.now p1.rel
theorem px_ifExp (hc : PXT X cx γ W C c tc) (ha : PX X cx γ W C a ta) (hb : PX X cx γ W C b tb) : PX X cx γ W C (.IfExp c a b pos) (.cond tc ta tb) := (pe_ifExp hc ha hb).weak fun σ H Q ⟨m, env, st, ra, h⟩ => by
  rw [evE] at h
  refine ⟨m, env, st, ra, h.bind.mono fun k m1 H1 st1 p1 q1 => ?_⟩
  cases k with
  | true => exact ⟨m1, env, st1, ra.post p1, q1⟩
  | false => exact ⟨m1, env, st1, ra.post p1, q1⟩
end

/-! ### displays -/
theorem lenOk.le {n : Nat} (h : lenOk n = true) : n ≤ sizeLine := Nat.le_trans (of_decide_eq_true h) (by rw [sizeLine_eq]; decide)
def fTup (xs : List A) (st : Sto) : Rs A := if lenOk xs.length then .ok (.tup xs) st else .bad
def fLst (xs : List A) (st : Sto) : Rs A := if lenOk xs.length then .ok (.ref st.length) (st ++ [.lst xs]) else .bad
section
variable {K : PySem.W.Frag} {m : List Addr} {H : Hp} {st : Sto} {xs : List A} {vs : List V} {p : Addr} {Q : VK}
theorem new_tup (R : Rel K m H st) (hv : VRs K m H xs vs) (hp : H p = none) (q : ∀ H' m' v, Post K m H m' H' st → VR K m' H' (.tup xs) v → Q v H') : Q (.ref p) (upd H p (.tup vs)) := by
  have P := Post.lay R (o := .tup vs) hp
  exact q _ _ _ P (.tup (.inl (.inl upd_same)) (P.vrs R hv))
theorem new_at (R : Rel K m H st) : (m ++ [p])[st.length]? = some p := by
  rw [← R.len]
  simp
theorem new_lst (R : Rel K m H st) (hv : VRs K m H xs vs) (hp : H p = none) (q : ∀ H' m' v, Post K m H m' H' (st ++ [.lst xs]) → VR K m' H' (.ref st.length) v → Q v H') : Q (.ref p) (upd H p (.lst vs)) := by
  have P0 := Post.lay R (o := .lst vs) hp
  have P : Post K m H (m ++ [p]) (upd H p (.lst vs)) (st ++ [.lst xs]) := Post.new R hp ⟨vs, upd_same, VRs.mono (P0.stb R) (fun l a h => by
    rw [List.getElem?_append_left (List.getElem?_eq_some_iff.mp h).1]
    exact h) hv⟩
  exact q _ _ _ P (.ref (new_at R))
end
theorem px_tup {es : List Expr} {ts : Es} {k : Nat} {pos : Pos} (h : PXA X cx γ W C es ts) : PX X cx γ W C (.Tuple es k pos) (.pn fTup ts) := (pe_tup h).weak <| pxa_tI (r := fun vs H Q => vs.length ≤ sizeLine ∧ ∀ p, H p = none → Q (.ref p) (upd H p (.tup vs))) fun m H st as xs R hv => by
  unfold fTup
  split
  · rename_i hl
    exact fun Q q => ⟨by rw [← hv.length]; exact lenOk.le hl, fun p hp => new_tup R hv hp q⟩
  · trivial
theorem px_lst {es : List Expr} {ts : Es} {pos : Pos} (h : PXA X cx γ W C es ts) : PX X cx γ W C (.List es pos) (.pn fLst ts) := (pe_lst h).weak <| pxa_tI (r := fun vs H Q => vs.length ≤ sizeLine ∧ ∀ p, H p = none → Q (.ref p) (upd H p (.lst vs))) fun m H st as xs R hv => by
  unfold fLst
  split
  · rename_i hl
    exact fun Q q => ⟨by rw [← hv.length]; exact lenOk.le hl, fun p hp => new_lst R hv hp q⟩
  · trivial
/-! ### calls of built-ins -/
section
variable {id : String} {x : Str} {e : Expr} {es : List Expr} {ts : Es} {f : List A → Sto → Rs A} {r : List V → Hp → VK → Prop} {p pos : Pos} {T : String}
theorem px_callB (hc : CallR X (.builtin id) r) (hs : CallS X.K f r) (hm : X.mg x = none) (ha : PXA X cx γ W C (e :: es) ts) (hv : bootBuiltins x = some (.builtin id) := by decide +kernel) (hg : Gl X x := by rfl) (hn : x ≠ "__name__" := by decide) (hdb : (x == ("__debug__" : Str)) = false := by decide)
    (he : starEach (e :: es) X.env = (false, eval e X.env) :: starEach es X.env := by rfl) (hpl : (backTo pos (starEach es X.env)).any (·.1) = false := by rfl) : PX X cx γ W C (.Call (.Name x p) (e :: es) [] pos) (.pn f ts) :=
  (pe_callB hc hg hm hv ha hn hdb he hpl).weak (pxa_tI hs)
theorem px_callTy (hc : CallR X (.type T) r) (hs : CallS X.K f r) (hm : X.mg x = none) (ha : PXA X cx γ W C (e :: es) ts) (hv : bootBuiltins x = some (.type T) := by decide +kernel) (hg : Gl X x := by rfl) (hn : x ≠ "__name__" := by decide) (hdb : (x == ("__debug__" : Str)) = false := by decide)
    (he : starEach (e :: es) X.env = (false, eval e X.env) :: starEach es X.env := by rfl) (hpl : (backTo pos (starEach es X.env)).any (·.1) = false := by rfl) : PX X cx γ W C (.Call (.Name x p) (e :: es) [] pos) (.pn f ts) :=
  (pe_callTy hc hg hm hv ha hn hdb he hpl).weak (pxa_tI hs)
theorem px_callBf (hc : CallR X (.builtin id) r) (hs : CallS X.K f r) (hm : X.mg x = some (.builtin id)) (ha : PXA X cx γ W C (e :: es) ts) (hg : Gl X x := by rfl) (hdb : (x == ("__debug__" : Str)) = false := by decide)
    (he : starEach (e :: es) X.env = (false, eval e X.env) :: starEach es X.env := by rfl) (hpl : (backTo pos (starEach es X.env)).any (·.1) = false := by rfl) : PX X cx γ W C (.Call (.Name x p) (e :: es) [] pos) (.pn f ts) :=
  (pe_callBfun hc hg hm ha hdb he hpl).weak (pxa_tI hs)
end
/-! ### subscripts, slices -/
section
variable {a b : Expr} {ta tb : E} {pos p2 : Pos} {f : A → A → Sto → Rs A} {r : R2}
theorem px_ix (hr : IxR X r) (hs : OpS X.K f r) (ha : PX X cx γ W C a ta) (hb : PX X cx γ W C b tb) (hp : PlainIx b := by exact fun _ _ => rfl) : PX X cx γ W C (.Subscript a b pos) (.p2 f ta tb) := (pe_ix hr ha hb hp).weak (p2_run hs)
end
end
end MP

/-! Slices, own calls, what a loop walks, comprehensions (own work). -/
namespace MP
open PySem PySem.Spec PyProof.Rows L2

section
variable {X : Cx} {cx : Str → Option Addr} {γ : Option Xg} {W : WX} {C : CallT}
/-! ### slices -/
def fInt (a : A) (st : Sto) : Rs A := match a with
  | .int i => .ok (.int i) st
  | _ => .bad
/-- a part of a slice: left out, or an int -/
def PXO (X : Cx) (cx : Str → Option Addr) (γ : Option Xg) (W : WX) (C : CallT) (o : Option Expr) (t : E) : Prop :=
  ∃ to : TO, PO X o to ∧ ∀ (σ : L2.St) (H : Hp) (Q : Option Int → Hp → Prop) (m : List Addr) (env : En) (st : Sto), RA X.K γ m σ H env st →
    Out X.K cx W σ m H (evE C t env st) (fun a m' H' _ => ∀ o, (a = .non ∧ o = none) ∨ (∃ i, a = .int i ∧ o = some i) → Q o H') → to σ H Q
theorem pxo_none : PXO X cx γ W C none (.c .non) := ⟨tNoPart, po_none, fun σ H Q m env st ra h => by
  rw [evE] at h
  exact h.now ra.rel none (.inl ⟨rfl, rfl⟩)⟩
theorem pxo_some {e : Expr} {t : E} (he : PX X cx γ W C e t) : PXO X cx γ W C (some e) (.p1 fInt t) := ⟨_, po_some he, fun σ H Q m env st ra h => by
  rw [evE] at h
  refine ⟨m, env, st, ra, h.bind.mono fun x m1 H1 st1 p1 q1 v vv => ?_⟩
  cases x with
  | int i => exact ⟨i, vv.int_inv, q1.now p1.rel (some i) (.inr ⟨i, rfl, rfl⟩)⟩
  | _ => exact q1.elim⟩
def cutA (xs : List A) (lo hi : Option Int) : List A := (xs.drop (HT.sIx xs.length 0 lo)).take (HT.sIx xs.length xs.length hi - HT.sIx xs.length 0 lo)
def partA : A → Option (Option Int)
  | .non => some none
  | .int i => some (some i)
  | _ => none
def fSl (as : List A) (st : Sto) : Rs A := match as with
  | [o, lo, hi] => match partA lo, partA hi with
    | some l, some u => match o with
      | .tup xs => .ok (.tup (cutA xs l u)) st
      | .rol xs => .ok (.ref st.length) (st ++ [.lst (cutA xs l u)])
      | .ref n => match st[n]? with
        | some (.lst xs) => .ok (.ref st.length) (st ++ [.lst (cutA xs l u)])
        | _ => .bad
      | _ => .bad
    | _, _ => .bad
  | _ => .bad
theorem VRs.cut {K : PySem.W.Frag} {m : List Addr} {H : Hp} {xs : List A} {vs : List V} (h : VRs K m H xs vs) (lo hi : Option Int) : VRs K m H (cutA xs lo hi) (cutV vs lo hi) := by
  unfold cutA cutV
  rw [h.length]
  exact (h.drop _).take _
theorem cutA_whole {xs : List A} {lo hi : Option Int} (h : HT.sIx xs.length 0 lo = 0 ∧ HT.sIx xs.length xs.length hi = xs.length) : cutA xs lo hi = xs := by
  unfold cutA
  rw [h.1, h.2]
  simp
theorem px_slice {e : Expr} {lo hi : Option Expr} {t tl th : E} {p2 pos : Pos} (he : PX X cx γ W C e t) (hl : PXO X cx γ W C lo tl) (hh : PXO X cx γ W C hi th) :
    PX X cx γ W C (.Subscript e (.Slice lo hi none p2) pos) (.pn fSl (.cons t (.cons tl (.cons th .nil)))) := by
  obtain ⟨to1, po1, w1⟩ := hl
  obtain ⟨to2, po2, w2⟩ := hh
  refine (pe_slice (sl_list.or sl_tupA) he po1 po2).weak fun σ H Q ⟨m, env, st, ra, h⟩ => ?_
  rw [evE, evEs] at h
  simp only [Rs.bind_assoc] at h
  refine ⟨m, env, st, ra, h.bind.mono fun x m1 H1 st1 p1 q1 v vv => ?_⟩
  rw [evEs] at q1
  simp only [Rs.bind_assoc] at q1
  refine w1 σ H1 _ m1 env st1 (ra.post p1) (q1.bind.mono fun a m2 H2 st2 p2 q2 o ho => ?_)
  rw [evEs] at q2
  simp only [Rs.bind_assoc] at q2
  refine w2 σ H2 _ m2 env st2 ((ra.post p1).post p2) (q2.bind.mono fun b m3 H3 st3 p3 q3 o' ho' => ?_)
  have q4 : Out X.K cx W σ m3 H3 (fSl [x, a, b] st3) (VQ X.K Q) := q3
  have e1 : partA a = some o := by
    rcases ho with ⟨rfl, rfl⟩ | ⟨i, rfl, rfl⟩ <;> rfl
  have e2 : partA b = some o' := by
    rcases ho' with ⟨rfl, rfl⟩ | ⟨i, rfl, rfl⟩ <;> rfl
  unfold fSl at q4
  simp only [e1, e2] at q4
  have vv3 := p3.vr p2.rel (p2.vr p1.rel vv)
  cases vv3 with
  | tup hs hv =>
    refine .inr ⟨_, _, rfl, hs, fun z => ?_, fun z p hp => ?_⟩
    · rw [← hv.length] at z
      have z2 := cutA_whole z
      dsimp only at q4
      rw [z2] at q4
      exact q4.now p3.rel _ (.tup hs hv)
    · exact new_tup p3.rel (hv.cut o o') hp fun H' m' v P vr => q4 H' m' P v vr
  | rol hs hv => exact .inl ⟨_, _, rfl, hs.sq, fun p hp => new_lst p3.rel (hv.cut o o') hp fun H' m' v P vr => q4 H' m' P v vr⟩
  | @ref n a' hn =>
    obtain ⟨ob, hob, ho3⟩ := p3.rel.has hn
    simp only [hob] at q4
    cases ob with
    | lst xs =>
      obtain ⟨vs, ea, hv⟩ := ho3
      exact .inl ⟨_, _, rfl, .of ea, fun p hp => new_lst p3.rel (hv.cut o o') hp fun H' m' v P vr => q4 H' m' P v vr⟩
    | dct _ => exact q4.elim
    | fdc _ => exact q4.elim
  | _ => exact q4.elim

/-! ### own calls -/
/-- a def's promise by its run -/
def spI (K : PySem.W.Frag) (cx : Str → Option Addr) (n : Nat) (f : List A → Sto → Rs A) : Sp := fun vs H Q E => vs.length = n ∧ ∃ m as st, Rel K m H st ∧ VRs K m H as vs ∧
  Out K cx (fun cls d _ H' => E cls d H') [] m H (f as st) (VQ K Q)
/-- the def of the number fid stands at the name x -/
structure FL (P : Program) (w : World) (K : PySem.W.Frag) (mg : Str → Option Value) (base : Heap) (cx : Str → Option Addr) (k : Nat) (C : CallT) (fid : Nat) (x : Str) (ps : List Str) (f : Addr) (fd : FuncData) : Prop where
  ok : FnOk P w K mg base (L2.CX P w) k f fd ps (spI K cx ps.length (C fid))
  mg : mg x = some (.ref f)
  kp : PySem.W.keepIn K (.ref f) = true
  bn : Binds K fd ps []
def Es.ln : Es → Option Nat
  | .nil => some 0
  | .cons _ es => es.ln.map (· + 1)
  | .star _ _ => none
theorem evEs_len {C : CallT} : ∀ (ts : Es) (env : En) (st : Sto) (as : List A) (st' : Sto) (n : Nat), evEs C ts env st = .ok as st' → ts.ln = some n → as.length = n
  | .nil, env, st, as, st', n, h, hn => by
    rw [evEs] at h
    cases h
    cases hn
    rfl
  | .star t ts, env, st, as, st', n, h, hn => by cases hn
  | .cons t ts, env, st, as, st', n, h, hn => by
    rw [evEs] at h
    rw [Es.ln] at hn
    cases hl : ts.ln with
    | none => rw [hl] at hn; cases hn
    | some k =>
      rw [hl] at hn
      cases hn
      cases e : evE C t env st with
      | bad => rw [e] at h; cases h
      | exc _ _ _ => rw [e] at h; cases h
      | ok x st1 =>
        rw [e] at h
        have h2 : (evEs C ts env st1).bind (fun xs st2 => Rs.ok (x :: xs) st2) = .ok as st' := h
        cases e2 : evEs C ts env st1 with
        | bad => rw [e2] at h2; cases h2
        | exc _ _ _ => rw [e2] at h2; cases h2
        | ok xs st2 =>
          rw [e2] at h2
          cases h2
          show xs.length + 1 = k + 1
          rw [evEs_len ts env st1 xs _ k e2 hl]
theorem Out.eq {α : Type} {K : PySem.W.Frag} {cx : Str → Option Addr} {W : WX} {σ : L2.St} {m : List Addr} {H : Hp} {r : Rs α} {Q : α → List Addr → Hp → Sto → Prop} (h : Out K cx W σ m H r Q) : Out K cx W σ m H r fun a m' H' st' => Q a m' H' st' ∧ r = .ok a st' := by
  cases r with
  | ok a st => exact fun H' m' q => ⟨h H' m' q, rfl⟩
  | exc c fs st => exact h
  | bad => exact h
theorem call_use {K : PySem.W.Frag} {cx : Str → Option Addr} {W : WX} {σ : L2.St} {m : List Addr} {H : Hp} {f : List A → Sto → Rs A} {as : List A} {vs : List V} {st : Sto} {Q : VK} {n : Nat} (hl : as.length = n) (R : Rel K m H st) (hv : VRs K m H as vs) (h : Out K cx W σ m H (f as st) (VQ K Q)) : spI K cx n f vs H Q (WE W σ) :=
  ⟨by rw [← hv.length]; exact hl, m, as, st, R, hv, by
    unfold Out at h ⊢
    cases e : f as st with
    | ok a st' => rw [e] at h; exact h
    | exc c fs st' => rw [e] at h; exact h
    | bad => rw [e] at h; exact h⟩
theorem px_call {k fid : Nat} {x : Str} {ps : List Str} {f : Addr} {fd : FuncData} {e : Expr} {es : List Expr} {ts : Es} {p pos : Pos} (F : FL X.prog X.w X.K X.mg X.base cx k C fid x ps f fd) (hr : Room k X.A) (tk : Takes X W) (ha : PXA X cx γ W C (e :: es) ts) (hl : ts.ln = some ps.length := by rfl)
    (hg : Gl X x := by rfl) (hdb : (x == ("__debug__" : Str)) = false := by decide) (he : starEach (e :: es) X.env = (false, eval e X.env) :: starEach es X.env := by rfl) (hpl : (backTo pos (starEach es X.env)).any (·.1) = false := by rfl) : PX X cx γ W C (.Call (.Name x p) (e :: es) [] pos) (.call fid [] ts) :=
  (pe_callS F.ok hr hg F.mg F.kp F.bn (fun σ => passAt tk σ) ha hdb he hpl).weak fun σ H Q ⟨m, env, st, ra, h⟩ => by
    rw [evE] at h
    refine ⟨m, env, st, ra, h.bind.eq.mono fun xs m1 H1 st1 p1 ⟨q1, eq⟩ vs vvs => ?_⟩
    exact call_use (evEs_len ts _ _ _ _ _ eq hl) p1.rel vvs q1
/-- no argument -/
theorem px_call0 {k fid : Nat} {x : Str} {f : Addr} {fd : FuncData} {p pos : Pos} (F : FL X.prog X.w X.K X.mg X.base cx k C fid x [] f fd) (hr : Room k X.A) (tk : Takes X W)
    (hg : Gl X x := by rfl) (hdb : (x == ("__debug__" : Str)) = false := by decide) : PX X cx γ W C (.Call (.Name x p) [] [] pos) (.call fid [] .nil) := by
  refine ⟨fun pins s σ H Q I ⟨m, env, st, ra, h⟩ => ?_⟩
  rw [evE, evEs] at h
  refine wpAny_Call_Name_kw (ld_glob I hg F.mg ?_ hdb)
  exact PySem.W.callWith_K0 I.kIn F.kp (run_fnS (us := []) F.ok hr F.bn (passAt tk σ) I .nil (call_use rfl ra.rel .nil h))
/-- f(k = v, ..): keywords alone; perm: where the parameters' values stand among the written ones -/
structure KB (K : PySem.W.Frag) (fd : FuncData) (ps ks : List Str) (perm : List Nat) : Prop where
  to : ∀ (s : Shared) (ws : List Value), K.In s.heap → ws.length = ks.length → BindsTo s fd ⟨[], ks.zip ws⟩ (ps.zip (perm.map fun i => ws.getD i .none))
theorem vals_perm {vs : List V} {us : List Value} (h : Vals vs us) (perm : List Nat) : Vals (perm.map fun i => vs.getD i .non) (perm.map fun i => us.getD i .none) := by
  induction perm with
  | nil => exact .nil
  | cons i r ih =>
    refine .cons ?_ ih
    dsimp only
    cases e : vs[i]? with
    | some v =>
      obtain ⟨u, hu, ru⟩ := h.get e
      rw [List.getD_eq_getElem?_getD, List.getD_eq_getElem?_getD, e, hu]
      exact ru
    | none =>
      rw [List.getD_eq_getElem?_getD, List.getD_eq_getElem?_getD, e, h.none_of e]
      rfl
theorem vrs_perm {K : PySem.W.Frag} {m : List Addr} {H : Hp} {as : List A} {vs : List V} (h : VRs K m H as vs) (perm : List Nat) : VRs K m H (perm.map fun i => as.getD i .non) (perm.map fun i => vs.getD i .non) := by
  induction perm with
  | nil => exact .nil
  | cons i r ih =>
    refine .cons ?_ ih
    dsimp only
    cases e : as[i]? with
    | some v =>
      obtain ⟨u, hu, ru⟩ := h.get e
      rw [List.getD_eq_getElem?_getD, List.getD_eq_getElem?_getD, e, hu]
      exact ru
    | none =>
      have e2 : vs[i]? = none := by
        rw [List.getElem?_eq_none_iff] at e ⊢
        rw [← h.length]
        exact e
      rw [List.getD_eq_getElem?_getD, List.getD_eq_getElem?_getD, e, e2]
      exact .non
/-- keywords' values -/
abbrev PXK (X : Cx) (cx : Str → Option Addr) (γ : Option Xg) (W : WX) (C : CallT) (ks : List Keyword) (t : Es) : Prop := PK X ks (tIA X.K cx γ W (evEs C t))
theorem _root_.L2.PK.weak {X : Cx} {e : List Keyword} {t t' : TA} (h : PK X e t) (w : ∀ σ H Q, t' σ H Q → t σ H Q) : PK X e t' := ⟨fun pos pins s σ H Q I q => h.run pos pins s σ H Q I (w σ H Q q)⟩
theorem pxk_nil : PXK X cx γ W C [] .nil := pk_nil.weak fun σ H Q ⟨m, env, st, ra, h⟩ => by
  rw [evEs] at h
  exact h.now ra.rel [] .nil
theorem pxk_cons {nm : Option Str} {kpos : Pos} {e : Expr} {ks : List Keyword} {t : E} {ts : Es} (ha : PX X cx γ W C e t) (hr : PXK X cx γ W C ks ts) : PXK X cx γ W C (⟨nm, e, kpos⟩ :: ks) (.cons t ts) :=
  (pk_cons ha hr).weak fun σ H Q ⟨m, env, st, ra, h⟩ => by
    rw [evEs] at h
    refine ⟨m, env, st, ra, h.bind.mono fun x m1 H1 st1 p1 q1 v vv => ⟨m1, env, st1, ra.post p1, q1.bind.mono fun xs m2 H2 st2 p2 q2 vs vvs => ?_⟩⟩
    exact q2.now p2.rel _ (.cons (p2.vr p1.rel vv) vvs)
theorem px_callK {k fid : Nat} {x : Str} {ps ks : List Str} {perm : List Nat} {f : Addr} {fd : FuncData} {kws : List Keyword} {ts : Es} {p pos : Pos} (F : FL X.prog X.w X.K X.mg X.base cx k C fid x ps f fd) (B : KB X.K fd ps ks perm) (hr : Room k X.A) (tk : Takes X W) (ha : PXK X cx γ W C kws ts)
    (hl : ts.ln = some ks.length := by rfl) (hp : perm.length = ps.length := by rfl) (hp0 : perm ≠ [] := by decide) (hall : (backToKw pos (keywordEach kws X.env)).all (·.1.isSome) = true := by rfl) (hks : (backToKw pos (keywordEach kws X.env)).filterMap (·.1) = ks := by rfl)
    (hg : Gl X x := by rfl) (hdb : (x == ("__debug__" : Str)) = false := by decide) (hpl : ((backTo pos (starEach [] X.env)).any (·.1) || (backToKw pos (keywordEach kws X.env)).any (·.1.isNone)) = false := by rfl) :
    PX X cx γ W C (.Call (.Name x p) [] kws pos) (.call fid perm ts) := by
  refine ⟨fun pins s σ H Q I ⟨m, env, st, ra, h⟩ => ?_⟩
  rw [evE] at h
  refine wpAny_Call_Name_kw (ld_glob I hg F.mg ?_ hdb)
  refine PySem.W.callWith_KW0 (h₀ := X.base) I.ok.mod.kin F.kp hall ?_ hpl
  have hq : tIA X.K cx γ W (evEs C ts) σ H fun zs H1 => zs.length = ks.length ∧ spI X.K cx ps.length (C fid) (perm.map fun i => zs.getD i .non) H1 Q (WE W σ) := by
    refine ⟨m, env, st, ra, h.bind.eq.mono fun xs m1 H1 st1 p1 ⟨q1, eq⟩ vs vvs => ⟨by rw [← vvs.length]; exact evEs_len ts _ _ _ _ _ eq hl, ?_⟩⟩
    have e : permA perm xs = perm.map fun i => xs.getD i .non := by
      unfold permA
      cases perm with
      | nil => exact absurd rfl hp0
      | cons a b => rfl
    rw [e] at q1
    exact call_use (by rw [List.length_map]; exact hp) p1.rel (vrs_perm vvs perm) q1
  refine thn (ha.run pos pins s σ H _ I hq) fun ws s1 ⟨zs, H1, I1, rz, hlen, q⟩ => ⟨I1.kIn, ?_⟩
  rw [hks]
  refine wpAny_call (codeAny_mono (F.ok.run X.A X.stack s1 H1 ⟨[], ks.zip ws⟩ (perm.map fun i => ws.getD i .none) (perm.map fun i => zs.getD i .non) Q (WE W σ) hr I1.env0 (B.to s1 ws I1.kIn (rz.length.symm.trans hlen)) (vals_perm rz perm) q) fun r s' hq => ?_)
  cases r with
  | error e => exact passAt tk σ pins H1 s1 e s' I1 hq
  | ok fl =>
    cases fl with
    | ret u => exact I1.after hq
    | next => exact False.elim hq
    | brk => exact False.elim hq
    | cont => exact False.elim hq
end
end MP

/-! Targets, what a loop walks, comprehensions (own work). -/
namespace MP
open PySem PySem.Spec PyProof.Rows L2

mutual
def T.ixs : T → List Nat
  | .name i => [i]
  | .tup ts => T.ixss ts
def T.ixss : List T → List Nat
  | [] => []
  | t :: ts => t.ixs ++ T.ixss ts
end
/-- the slots but those at is are kept -/
structure SB (σ σ' : L2.St) (is : List Nat) : Prop where
  len : σ'.length = σ.length
  out : ∀ i, i ∉ is → σ'[i]? = σ[i]?
theorem SB.refl (σ : L2.St) : SB σ σ [] := ⟨rfl, fun _ _ => rfl⟩
theorem SB.trans {σ σ1 σ2 : L2.St} {a b : List Nat} (h : SB σ σ1 a) (h' : SB σ1 σ2 b) : SB σ σ2 (a ++ b) :=
  ⟨h'.len.trans h.len, fun i hi => (h'.out i fun z => hi (List.mem_append_right _ z)).trans (h.out i fun z => hi (List.mem_append_left _ z))⟩
theorem wipe_get (σ : L2.St) : ∀ (vs : List Nat) (i : Nat), (wipe σ vs)[i]? = if i < σ.length then (if i ∈ vs then some none else σ[i]?) else none := by
  intro vs
  induction vs with
  | nil =>
    intro i
    unfold wipe
    by_cases h : i < σ.length
    · simp [h]
    · simp [h]
  | cons v r ih =>
    intro i
    unfold wipe
    rw [List.getElem?_set, ih, wipe_length]
    by_cases h : i < σ.length
    · by_cases hv : i = v
      · subst hv
        simp [h]
      · have hv' : v ≠ i := Ne.symm hv
        simp [h, hv, hv']
    · by_cases hv : v = i
      · subst hv
        simp [h]
      · simp [h, hv]
theorem wipeE_get (σ : En) : ∀ (vs : List Nat) (i : Nat), (wipeE σ vs)[i]? = if i < σ.length then (if i ∈ vs then some none else σ[i]?) else none := by
  intro vs
  induction vs generalizing σ with
  | nil =>
    intro i
    unfold wipeE
    by_cases h : i < σ.length
    · simp [h]
    · simp [h]
  | cons v r ih =>
    intro i
    unfold wipeE
    rw [ih]
    by_cases h : i < σ.length
    · by_cases hv : i = v
      · subst hv
        simp [h]
      · have hv' : v ≠ i := Ne.symm hv
        simp [h, hv, hv', List.getElem?_set]
    · simp [h]
theorem SB.wipe {σ σ' : L2.St} {is own : List Nat} (h : SB σ σ' is) (hs : ∀ i ∈ is, i ∈ own) : wipe σ' own = wipe σ own := by
  apply List.ext_getElem?
  intro i
  rw [wipe_get, wipe_get, h.len]
  split
  · split
    · rfl
    · rename_i hi
      exact h.out i fun z => hi (hs i z)
  · rfl
theorem wipe_wipe (σ : L2.St) (own : List Nat) : L2.wipe (L2.wipe σ own) own = L2.wipe σ own := by
  apply List.ext_getElem?
  intro i
  rw [wipe_get, wipe_get, wipe_length]
  split
  · split <;> rfl
  · rfl

/-- slots and store-less environment, where no exception is held -/
structure EV (K : PySem.W.Frag) (σ : L2.St) (H : Hp) (m : List Addr) (env : En) : Prop where
  len : env.length = σ.length
  get : ∀ (i : Nat) (a : A), env[i]? = some (some a) → ∃ v, σ[i]? = some (some v) ∧ VR K m H a v
section
variable {K : PySem.W.Frag} {σ σ' : L2.St} {m m' : List Addr} {H H' : Hp} {env env' : En} {st st' : Sto}
theorem EV.er (h : EV K σ H m env) : ER K none σ H m env := ⟨fun i a e => .inl (by obtain ⟨v, e1, r⟩ := h.get i a e; exact ⟨v, e1, r, fun g eg => by cases eg⟩), (fun g e => by cases e), fun _ => h.len⟩
theorem EV.of (h : ER K none σ H m env) : EV K σ H m env := ⟨h.2.2 rfl, fun i a e => by
  rcases h.1 i a e with ⟨v, e1, r, _⟩ | ⟨g, eg, _⟩
  · exact ⟨v, e1, r⟩
  · cases eg⟩
theorem EV.mono (R : Rel K m H st) (p : Post K m H m' H' st') (h : EV K σ H m env) : EV K σ H' m' env := ⟨h.len, fun i a e => by
  obtain ⟨v, e1, r⟩ := h.get i a e
  exact ⟨v, e1, p.vr R r⟩⟩
theorem EV.set (h : EV K σ H m env) (i : Nat) {a : A} {v : V} (r : VR K m H a v) : EV K (σ.set i (some v)) H m (env.set i (some a)) := ⟨by rw [List.length_set, List.length_set]; exact h.len, fun j b e => by
  by_cases hj : i = j
  · subst hj
    by_cases hl : i < env.length
    · rw [List.getElem?_set_self hl] at e
      cases e
      rw [List.getElem?_set_self (by rw [← h.len]; exact hl)]
      exact ⟨v, rfl, r⟩
    · rw [List.getElem?_eq_none (by rw [List.length_set]; omega)] at e
      cases e
  · rw [List.getElem?_set_ne hj] at e ⊢
    exact h.get j b e⟩
theorem EV.wipe (h : EV K σ H m env) (own : List Nat) : EV K (L2.wipe σ own) H m (wipeE env own) := by
  have hw : ∀ (own : List Nat) (env : En), (wipeE env own).length = env.length := by
    intro own
    induction own with
    | nil => intro env; rfl
    | cons v r ih => intro env; unfold wipeE; rw [ih, List.length_set]
  refine ⟨by rw [hw, wipe_length]; exact h.len, fun i a e => ?_⟩
  rw [wipeE_get] at e
  rw [wipe_get, ← h.len]
  split at e
  · rename_i hl
    rw [if_pos hl]
    split at e
    · cases e
    · rename_i hn
      rw [if_neg hn]
      exact h.get i a e
  · cases e
end
/-! ### targets -/
theorem _root_.L2.PG.weak {X : Cx} {e : Expr} {t t' : TG} (h : PG X e t) (w : ∀ v σ H Q, t' v σ H Q → t v σ H Q) : PG X e t' := ⟨fun pins s σ H v u Q I r q => h.run pins s σ H v u Q I r (w v σ H Q q)⟩
theorem _root_.L2.PG.or {X : Cx} {e : Expr} {t t' : TG} (h : PG X e t) (h' : PG X e t') : PG X e (fun v σ H Q => t v σ H Q ∨ t' v σ H Q) := ⟨fun pins s σ H v u Q I r q => by
  rcases q with q | q
  · exact h.run pins s σ H v u Q I r q
  · exact h'.run pins s σ H v u Q I r q⟩
theorem _root_.L2.PGs.weak {X : Cx} {e : List Expr} {t t' : TGs} (h : PGs X e t) (w : ∀ v σ H Q, t' v σ H Q → t v σ H Q) : PGs X e t' := ⟨fun pins s σ H v u Q I r q => h.run pins s σ H v u Q I r (w v σ H Q q)⟩
def tG (K : PySem.W.Frag) (t : T) : TG := fun v σ H Q => ∃ m env st a env', Rel K m H st ∧ EV K σ H m env ∧ VR K m H a v ∧ t.put a env st = some env' ∧ ∀ σ', EV K σ' H m env' → SB σ σ' t.ixs → Q σ' H
def tGs (K : PySem.W.Frag) (ts : List T) : TGs := fun vs σ H Q => ∃ m env st as env', Rel K m H st ∧ EV K σ H m env ∧ VRs K m H as vs ∧ T.puts ts as env st = some env' ∧ ∀ σ', EV K σ' H m env' → SB σ σ' (T.ixss ts) → Q σ' H
section
variable {X : Cx} {pos : Pos}
theorem gx_name (i : Nat) {x : Str} (hN : X.N.Nodup) (hi : X.N[i]? = some x := by rfl) (hx : Loc X.env.scope x := by first | exact Or.inl rfl | exact Or.inr rfl) (hf : X.fn x = true ∨ X.env.scope.names.lookup x = some .local := by first | exact .inl rfl | exact .inr rfl | assumption) : PG X (.Name x pos) (tG X.K (.name i)) :=
  (pg_name hN hi hx hf).weak fun v σ H Q ⟨m, env, st, a, env', R, er, vr, e, q⟩ => by
    rw [T.put] at e
    cases e
    refine q _ (er.set i vr) ⟨by rw [List.length_set], fun j hj => ?_⟩
    rw [List.getElem?_set_ne]
    intro z
    exact hj (by rw [T.ixs]; simp [z])
theorem gxs_nil : PGs X [] (tGs X.K []) := pgs_nil.weak fun vs σ H Q ⟨m, env, st, as, env', R, er, vr, e, q⟩ => by
  cases as with
  | nil =>
    rw [T.puts] at e
    cases e
    cases vr
    exact ⟨rfl, q σ er (by rw [T.ixss]; exact SB.refl σ)⟩
  | cons a as => simp [T.puts] at e
theorem gxs_cons {e : Expr} {es : List Expr} {t : T} {ts : List T} (h1 : PG X e (tG X.K t)) (h2 : PGs X es (tGs X.K ts)) (hs : (assignEach (e :: es) X.env).map (·.2) = assign e X.env :: (assignEach es X.env).map (·.2) := by rfl) : PGs X (e :: es) (tGs X.K (t :: ts)) :=
  (pgs_cons h1 h2 hs).weak fun vs σ H Q ⟨m, env, st, as, env', R, er, vr, e, q⟩ => by
    cases as with
    | nil => simp [T.puts] at e
    | cons a as =>
      rw [T.puts] at e
      cases vr with
      | cons r rr =>
        split at e
        · rename_i env1 e1
          refine ⟨_, _, rfl, m, env, st, a, env1, R, er, r, e1, fun σ1 er1 sb1 => ?_⟩
          exact ⟨m, env1, st, as, env', R, er1, rr, e, fun σ2 er2 sb2 => q σ2 er2 (by rw [T.ixss]; exact sb1.trans sb2)⟩
        · cases e
theorem puts_len : ∀ (ts : List T) (as : List A) (env : En) (st : Sto) (env' : En), T.puts ts as env st = some env' → as.length = ts.length
  | [], [], _, _, _, _ => rfl
  | t :: ts, a :: as, env, st, env', h => by
    rw [T.puts] at h
    split at h
    · rw [List.length_cons, List.length_cons, puts_len ts as _ st env' h]
    · cases h
  | [], _ :: _, _, _, _, h => by simp [T.puts] at h
  | _ :: _, [], _, _, _, h => by simp [T.puts] at h
theorem gx_tup {es : List Expr} {k : Nat} {ts : List T} (hc : X.calm = true) (h : PGs X es (tGs X.K ts)) (hn : (assignEach es X.env).length = ts.length := by rfl) (hst : (assignEach es X.env).findIdx? (·.1) = none := by rfl) : PG X (.Tuple es k pos) (tG X.K (.tup ts)) :=
  ((pg_tup (n := ts.length) hc h hn hst).or (pg_lst (n := ts.length) hc h hn hst)).weak fun v σ H Q ⟨m, env, st, a, env', R, er, vr, e, q⟩ => by
    cases vr with
    | tup hs hv =>
      rw [T.put] at e
      exact .inl ⟨_, _, rfl, hs, by rw [← hv.length]; exact puts_len _ _ _ _ _ e, m, env, st, _, env', R, er, hv, e, fun σ' er' sb => q σ' er' (by rw [T.ixs]; exact sb)⟩
    | @ref l p hl =>
      rw [T.put] at e
      obtain ⟨o, ho, ho2⟩ := R.has hl
      rw [ho] at e
      cases o with
      | lst xs =>
        obtain ⟨vs, ea, hv⟩ := ho2
        exact .inr ⟨_, _, rfl, .of ea, by rw [← hv.length]; exact puts_len _ _ _ _ _ e, m, env, st, _, env', R, er, hv, e, fun σ' er' sb => q σ' er' (by rw [T.ixs]; exact sb)⟩
      | dct _ => cases e
      | fdc _ => cases e
    | _ => simp [T.put] at e
end
/-! ### what a loop walks -/
def ItR (K : PySem.W.Frag) (m : List Addr) (H0 : Hp) (it : It) (J : L2.It) : Prop := ∀ (m' : List Addr) (H : Hp) (st : Sto) (i : Nat), Stb K H0 H → (∀ a o u, H0 a = some (.frz o u) → H a = some (.frz o u)) → (∀ (l : Nat) (a : Addr), m[l]? = some a → m'[l]? = some a) → Rel K m' H st →
  match it.at i st with
  | none => True
  | some none => J.stop i H
  | some (some x) => J.go i H ∧ ∀ v H', J.yld i H v H' → Post K m' H m' H' st ∧ VR K m' H' x v
section
variable {K : PySem.W.Frag} {m : List Addr} {H0 : Hp}
theorem itr_lst {l : Nat} {a : Addr} (ha : m[l]? = some a) : ItR K m H0 (.lst l) (Itl K a) := by
  intro m' H st i s fz e R
  unfold It.at
  have ha' := e l a ha
  obtain ⟨o, ho, q⟩ := R.has ha'
  rw [ho]
  cases o with
  | dct _ => trivial
  | fdc _ => trivial
  | lst xs =>
    obtain ⟨vs, ea, hv⟩ := q
    dsimp only
    cases hx : xs[i]? with
    | none =>
      refine ⟨vs, .of ea, ?_⟩
      rw [← hv.length]
      exact List.getElem?_eq_none_iff.mp hx
    | some x =>
      obtain ⟨v, hvv, vr⟩ := hv.get hx
      refine ⟨⟨vs, v, .of ea, hvv⟩, fun w H' ⟨e1, e2⟩ => ?_⟩
      subst e1
      refine ⟨Post.refl R, ?_⟩
      have := e2 vs (.of ea)
      rw [hvv] at this
      cases this
      exact vr
theorem itr_tup {xs : List A} {vs : List V} {a : Addr} (hs : SqT K H0 a vs) (hv : VRs K m H0 xs vs) : ItR K m H0 (.tup xs) (Itt K a) := by
  intro m' H st i s fz e R
  unfold It.at
  have hs' := s.t _ _ hs
  have hv' := VRs.mono s e hv
  cases hx : xs[i]? with
  | none =>
    refine ⟨vs, hs', ?_⟩
    rw [← hv'.length]
    exact List.getElem?_eq_none_iff.mp hx
  | some x =>
    obtain ⟨v, hvv, vr⟩ := hv'.get hx
    refine ⟨⟨vs, v, hs', hvv⟩, fun w H' ⟨e1, e2⟩ => ?_⟩
    subst e1
    refine ⟨Post.refl R, ?_⟩
    have := e2 vs hs'
    rw [hvv] at this
    cases this
    exact vr
theorem itr_rol {xs : List A} {vs : List V} {a : Addr} (hs : RoL K H0 a vs) (hv : VRs K m H0 xs vs) : ItR K m H0 (.tup xs) (Itl K a) := by
  intro m' H st i s fz e R
  unfold It.at
  have hs' := (s.l _ _ hs).sq
  have hv' := VRs.mono s e hv
  cases hx : xs[i]? with
  | none =>
    refine ⟨vs, hs', ?_⟩
    rw [← hv'.length]
    exact List.getElem?_eq_none_iff.mp hx
  | some x =>
    obtain ⟨v, hvv, vr⟩ := hv'.get hx
    refine ⟨⟨vs, v, hs', hvv⟩, fun w H' ⟨e1, e2⟩ => ?_⟩
    subst e1
    refine ⟨Post.refl R, ?_⟩
    have := e2 vs hs'
    rw [hvv] at this
    cases this
    exact vr
theorem itr_rng {lo : Int} {n : Nat} : ItR K m H0 (.rng lo n) (Itr lo n) := by
  intro m' H st i s fz e R
  unfold It.at
  by_cases h : i < n
  · rw [if_pos h]
    refine ⟨h, fun v H' ⟨e1, e2⟩ => ?_⟩
    subst e1 e2
    exact ⟨Post.refl R, .int _⟩
  · rw [if_neg h]
    exact Nat.le_of_not_lt h
end
theorem _root_.L2.PI.weak {X : Cx} {tg e : Expr} {t t' : TI} (h : PI X tg e t) (w : ∀ σ H R, t' σ H R → t σ H R) : PI X tg e t' := ⟨fun pins s σ H R I q => h.run pins s σ H R I (w σ H R q)⟩
theorem _root_.L2.PI.or {X : Cx} {tg e : Expr} {t t' : TI} (h : PI X tg e t) (h' : PI X tg e t') : PI X tg e (fun σ H R => t σ H R ∨ t' σ H R) := ⟨fun pins s σ H R I q => by
  rcases q with q | q
  · exact h.run pins s σ H R I q
  · exact h'.run pins s σ H R I q⟩
section
variable {X : Cx} {cx : Str → Option Addr} {W : WX} {C : CallT}
def tII (K : PySem.W.Frag) (cx : Str → Option Addr) (W : WX) (C : CallT) (itf : List A → Sto → Rs It) (es : Es) : TI := fun σ H R => ∃ m env st, Rel K m H st ∧ EV K σ H m env ∧
  Out K cx W σ m H ((evEs C es env st).bind itf) fun it m' H' _ => ∀ J, ItR K m' H' it J → R J H'
abbrev PXI (X : Cx) (cx : Str → Option Addr) (W : WX) (C : CallT) (tg e : Expr) (itf : List A → Sto → Rs It) (es : Es) : Prop := PI X tg e (tII X.K cx W C itf es)
/-- a list or a tuple -/
def itSeq (as : List A) (st : Sto) : Rs It := match as with
  | [.ref l] => match st[l]? with
    | some (.lst _) => .ok (.lst l) st
    | _ => .bad
  | [.tup xs] => .ok (.tup xs) st
  | [.rol xs] => .ok (.tup xs) st
  | _ => .bad
def itRange (as : List A) (st : Sto) : Rs It := match as with
  | [.int n] => if -(2 ^ 62) ≤ n ∧ n < 2 ^ 62 then .ok (.rng 0 n.toNat) st else .bad
  | [.int i, .int j] => if -(2 ^ 62) ≤ i ∧ i < 2 ^ 62 ∧ -(2 ^ 62) ≤ j ∧ j < 2 ^ 62 then .ok (.rng i (j - i).toNat) st else .bad
  | _ => .bad
variable {tg : Expr}
theorem xi_seq {e : Expr} {t : E} (he : PX X cx none W C e t) : PXI X cx W C tg e itSeq (.cons t .nil) :=
  ((pi_list he).or (pi_tup he)).weak fun σ H R ⟨m, env, st, Rl, er, h⟩ => by
    rw [evEs, Rs.bind_assoc] at h
    have hb : Out X.K cx W σ m H (evE C t env st) fun a m1 H1 st1 => Out X.K cx W σ m1 H1 (itSeq [a] st1) fun it m' H' _ => ∀ J, ItR X.K m' H' it J → R J H' := h.bind.mono fun a m1 H1 st1 p1 q1 => by
      rw [evEs] at q1
      exact q1
    have ra : RA X.K none m σ H env st := ⟨Rl, er.er⟩
    cases hev : evE C t env st with
    | bad =>
      rw [hev] at hb
      exact hb.elim
    | exc c fs st' => exact .inl ⟨m, env, st, ra, by rw [hev] at hb ⊢; exact hb⟩
    | ok a st' =>
      rw [hev] at hb
      cases a with
      | tup xs =>
        refine .inr ⟨m, env, st, ra, ?_⟩
        rw [hev]
        refine hb.eq.mono fun a m1 H1 st1 p1 ⟨q1, eq⟩ v vv => ?_
        cases eq
        cases vv with
        | tup hs hv => exact ⟨_, rfl, ⟨_, hs⟩, q1.now p1.rel _ (itr_tup hs hv)⟩
      | rol xs =>
        refine .inl ⟨m, env, st, ra, ?_⟩
        rw [hev]
        refine hb.eq.mono fun a m1 H1 st1 p1 ⟨q1, eq⟩ v vv => ?_
        cases eq
        cases vv with
        | rol hs hv => exact ⟨_, rfl, ⟨_, hs.sq⟩, q1.now p1.rel _ (itr_rol hs hv)⟩
      | ref l =>
        refine .inl ⟨m, env, st, ra, ?_⟩
        rw [hev]
        refine hb.eq.mono fun a m1 H1 st1 p1 ⟨q1, eq⟩ v vv => ?_
        cases eq
        cases vv with
        | ref hl =>
          obtain ⟨o, ho, q⟩ := p1.rel.has hl
          unfold itSeq at q1
          simp only [ho] at q1
          cases o with
          | lst xs =>
            obtain ⟨vs, ea, hv⟩ := q
            exact ⟨_, rfl, ⟨_, .of ea⟩, q1.now p1.rel _ (itr_lst hl)⟩
          | dct _ => exact q1.elim
          | fdc _ => exact q1.elim
      | _ =>
        refine .inl ⟨m, env, st, ra, ?_⟩
        rw [hev]
        refine hb.eq.mono fun a m1 H1 st1 p1 ⟨q1, eq⟩ v vv => ?_
        cases eq
        exact q1.elim
theorem xi_range1 {a : Expr} {t : Es} {p pos : Pos} (hm : X.mg "range" = none) (ha : PXA X cx none W C [a] t) (hl : t.ln = some 1 := by rfl) (hg : Gl X "range" := by rfl) (hs : starEach [a] X.env = [(false, eval a X.env)] := by rfl) : PXI X cx W C tg (.Call (.Name "range" p) [a] [] pos) itRange t :=
  (pi_range1 hg hm ha hs).weak fun σ H R ⟨m, env, st, Rl, er, h⟩ => by
    refine ⟨m, env, st, ⟨Rl, er.er⟩, h.bind.eq.mono fun xs m1 H1 st1 p1 ⟨q1, eq⟩ vs vvs => ?_⟩
    have hlen := evEs_len t _ _ _ _ _ eq hl
    match xs, hlen, vvs with
    | [x], _, vvs =>
      obtain ⟨v, rfl, vr⟩ := vvs.one_inv
      cases x with
      | int n =>
        unfold itRange at q1
        dsimp only at q1
        split at q1
        · rename_i hb
          cases vr
          exact ⟨n, rfl, hb.1, hb.2, q1.now p1.rel _ itr_rng⟩
        · exact q1.elim
      | _ => exact q1.elim
theorem xi_range2 {a b : Expr} {t : Es} {p pos : Pos} (hm : X.mg "range" = none) (ha : PXA X cx none W C [a, b] t) (hl : t.ln = some 2 := by rfl) (hg : Gl X "range" := by rfl) (hs : starEach [a, b] X.env = [(false, eval a X.env), (false, eval b X.env)] := by rfl) (hs2 : starEach [b] X.env = [(false, eval b X.env)] := by rfl) : PXI X cx W C tg (.Call (.Name "range" p) [a, b] [] pos) itRange t :=
  (pi_range2 hg hm ha hs hs2).weak fun σ H R ⟨m, env, st, Rl, er, h⟩ => by
    refine ⟨m, env, st, ⟨Rl, er.er⟩, h.bind.eq.mono fun xs m1 H1 st1 p1 ⟨q1, eq⟩ vs vvs => ?_⟩
    have hlen := evEs_len t _ _ _ _ _ eq hl
    match xs, hlen, vvs with
    | [x, y], _, vvs =>
      obtain ⟨v, w, rfl, vr, vr2⟩ := vvs.two_inv
      cases x with
      | int n =>
        cases y with
        | int k =>
          unfold itRange at q1
          dsimp only at q1
          split at q1
          · rename_i hb
            cases vr
            cases vr2
            exact ⟨n, k, rfl, hb, q1.now p1.rel _ itr_rng⟩
          · exact q1.elim
        | _ => exact q1.elim
      | _ => exact q1.elim

/-! ### comprehensions -/
/-- a thing that stands at D becomes one of our objects -/
theorem Post.adoptO {K : PySem.W.Frag} {m0 m : List Addr} {H0 H : Hp} {st : Sto} {D : Addr} {ob : Ob} (p : Post K m0 H0 m H st) (h0 : H0 D = none) (hD : D ∉ m) (hob : OR K (m ++ [D]) H D ob) : Post K m0 H0 (m ++ [D]) H (st ++ [ob]) ∧ VR K (m ++ [D]) H (.ref st.length) (.ref D) := by
  have R := p.rel
  have g : ∀ (l : Nat) (a : Addr), m[l]? = some a → (m ++ [D])[l]? = some a := fun l a h => by
    rw [List.getElem?_append_left (List.getElem?_eq_some_iff.mp h).1]
    exact h
  obtain ⟨k, ek⟩ := p.ex
  refine ⟨⟨⟨k ++ [D], by rw [ek, List.append_assoc]⟩, p.fr, p.fz, fun a h n => ?_, fun i j a h1 h2 => ?_, by rw [List.length_append, List.length_append, R.len]; rfl, fun l a u h1 h2 => ?_⟩, .ref (by rw [← R.len]; simp)⟩
  · rcases List.mem_append.mp h with z | z
    · exact p.nw a z n
    · have : a = D := by simpa using z
      rw [this]
      exact h0
  · rw [List.getElem?_append] at h1 h2
    split at h1
    · split at h2
      · exact R.inj i j a h1 h2
      · have hj : a = D := by
          have := List.mem_of_getElem? h2
          simpa using this
        exact absurd (hj ▸ List.mem_of_getElem? h1) hD
    · have hi : a = D := by
        have := List.mem_of_getElem? h1
        simpa using this
      split at h2
      · exact absurd (hi ▸ List.mem_of_getElem? h2) hD
      · have e1 : i - m.length < 1 := by
          have := (List.getElem?_eq_some_iff.mp h1).1
          simpa using this
        have e2 : j - m.length < 1 := by
          have := (List.getElem?_eq_some_iff.mp h2).1
          simpa using this
        omega
  · rw [List.getElem?_append] at h1 h2
    split at h1
    · rename_i hl
      rw [R.len] at hl
      rw [if_pos hl] at h2
      exact (R.obj l a u h1 h2).mono Stb.refl g rfl
    · rename_i hl
      rw [R.len] at hl
      rw [if_neg hl] at h2
      have hi : a = D := by
        have := List.mem_of_getElem? h1
        simpa using this
      have hu : u = ob := by
        have := List.mem_of_getElem? h2
        simpa using this
      rw [hi, hu]
      exact hob
theorem Post.adopt {K : PySem.W.Frag} {m0 m : List Addr} {H0 H : Hp} {st : Sto} {D : Addr} {xs : List A} {vs : List V} (p : Post K m0 H0 m H st) (h0 : H0 D = none) (hD : D ∉ m) (eD : H D = some (.lst vs)) (hv : VRs K m H xs vs) : Post K m0 H0 (m ++ [D]) H (st ++ [.lst xs]) ∧ VR K (m ++ [D]) H (.ref st.length) (.ref D) :=
  p.adoptO h0 hD ⟨vs, eD, VRs.mono Stb.refl (fun l a h => by
    rw [List.getElem?_append_left (List.getElem?_eq_some_iff.mp h).1]
    exact h) hv⟩
abbrev WF : WX := fun _ _ _ _ => False
theorem comp_run {own : List Nat} {itf : List A → Sto → Rs It} {es : Es} {t : T} {c e : E} (hown : ∀ i ∈ t.ixs, i ∈ own) : ∀ σ H Q, tI X.K cx none W (evE C (.comp own itf es t c e)) σ H Q →
    tLc (tII X.K cx W C itf es) (tG X.K t) (tIT X.K cx none WF (evE C c)) (tI X.K cx none WF (evE C e)) own σ H Q := by
  intro σ H Q ⟨m, env, st, ra, h⟩
  have ev := EV.of ra.er
  rw [evE, ← Rs.bind_assoc] at h
  refine ⟨m, env, st, ra.rel, ev, h.bind.mono fun it m1 H1 st1 p1 q1 J hJ D hD => ?_⟩
  split at q1
  · exact q1.elim
  rename_i hlen
  have hlen' : it.len st1 ≤ 1000000 := by
    have : lenOk (it.len st1) = true := by simpa using hlen
    exact of_decide_eq_true this
  have ev1 := ev.mono ra.rel p1
  have R1 := p1.rel
  have nD : D ∉ m1 := fun z => by
    obtain ⟨o, e, _⟩ := R1.live z
    rw [hD] at e
    cases e
  generalize hbody : (fun (x : A) (st : Sto) => match t.put x (wipeE env own) st with
        | some env' => ((evE C c env' st).bind asB).bind fun k st' => if k then (evE C e env' st').bind fun y st'' => Rs.ok (some y) st'' else Rs.ok none st'
        | none => Rs.bad) = body at q1
  -- the word: by the turn i and the turns left n
  refine ⟨fun i n H2 => ∃ m2 st2 acc vs, Post X.K m1 H1 m2 H2 st2 ∧ D ∉ m2 ∧ H2 D = some (.lst vs) ∧ VRs X.K m2 H2 acc vs ∧ acc.length ≤ i ∧ i + n = it.len st1 + 1 ∧
    Out X.K cx W σ m1 H1 ((compL it body n i acc st2).bind fun ys st3 => .ok (.ref st3.length) (st3 ++ [.lst ys])) (VQ X.K Q), ⟨it.len st1 + 1, m1, st1, [], [], Post.lay R1 hD, nD, upd_same, .nil, Nat.le_refl _, by omega, q1⟩, ?_⟩
  rintro i n H2 ⟨m2, st2, acc, vs, P2, nD2, eD, hacc, hl, hin, hout⟩
  have hj := hJ m2 H2 st2 i (P2.stb R1) P2.fz P2.get P2.rel
  cases n with
  | zero =>
    rw [compL] at hout
    exact hout.elim
  | succ n =>
    rw [compL] at hout
    cases hat : it.at i st2 with
    | none =>
      rw [hat] at hout
      exact hout.elim
    | some o =>
      rw [hat] at hout hj
      cases o with
      | none =>
        refine .inl ⟨hj, ?_⟩
        obtain ⟨PA, VA⟩ := P2.adopt hD nD2 eD hacc
        exact hout H2 _ PA _ VA
      | some x =>
        dsimp only at hj hout
        refine .inr ⟨hj.1, fun H' => ∃ m2 st2 acc vs, Post X.K m1 H1 m2 H' st2 ∧ D ∉ m2 ∧ H' D = some (.lst vs) ∧ VRs X.K m2 H' acc vs ∧ acc.length ≤ i + 1 ∧ i + 1 + n = it.len st1 + 1 ∧
          Out X.K cx W σ m1 H1 ((compL it body n (i + 1) acc st2).bind fun ys st3 => .ok (.ref st3.length) (st3 ++ [.lst ys])) (VQ X.K Q), fun H' h' => ⟨n, Nat.lt_succ_self n, h'⟩, fun v H' hy => ?_⟩
        obtain ⟨P3, vx⟩ := hj.2 v H' hy
        have P23 := P2.trans P3
        have eD3 : H' D = some (.lst vs) := P3.fr D _ eD nD2
        -- what the turn comes to
        have hB : Out X.K cx WF (wipe σ own) m2 H' (body x st2) fun o m4 H4 st4 => match o with
            | some y => ∀ w, VR X.K m4 H4 y w → ∃ m2 st2 acc' vs', Post X.K m1 H1 m2 (upd H4 D (.lst (vs ++ [w]))) st2 ∧ D ∉ m2 ∧ upd H4 D (.lst (vs ++ [w])) D = some (.lst vs') ∧ VRs X.K m2 (upd H4 D (.lst (vs ++ [w]))) acc' vs' ∧ acc'.length ≤ i + 1 ∧ i + 1 + n = it.len st1 + 1 ∧
                Out X.K cx W σ m1 H1 ((compL it body n (i + 1) acc' st2).bind fun ys st3 => .ok (.ref st3.length) (st3 ++ [.lst ys])) (VQ X.K Q)
            | none => ∃ m2 st2 acc' vs', Post X.K m1 H1 m2 H4 st2 ∧ D ∉ m2 ∧ H4 D = some (.lst vs') ∧ VRs X.K m2 H4 acc' vs' ∧ acc'.length ≤ i + 1 ∧ i + 1 + n = it.len st1 + 1 ∧
                Out X.K cx W σ m1 H1 ((compL it body n (i + 1) acc' st2).bind fun ys st3 => .ok (.ref st3.length) (st3 ++ [.lst ys])) (VQ X.K Q) := by
          cases hbx : body x st2 with
          | bad =>
            rw [hbx] at hout
            exact hout.elim
          | exc _ _ _ =>
            rw [hbx] at hout
            exact hout.elim
          | ok o st' =>
            rw [hbx] at hout
            intro H4 m4 P4
            have P := P23.trans P4
            have nD4 : D ∉ m4 := fun z => by
              have := P4.nw D z nD2
              rw [eD3] at this
              cases this
            have eD4 : H4 D = some (.lst vs) := P4.fr D _ eD3 nD2
            have hacc4 := P4.vrs P3.rel (P3.vrs P2.rel hacc)
            cases o with
            | none => exact ⟨m4, st', acc, vs, P, nD4, eD4, hacc4, by omega, by omega, hout⟩
            | some y =>
              intro w vw
              have sD : Stb X.K H4 (upd H4 D (.lst (vs ++ [w]))) := by
                constructor
                · intro a xs hh
                  rcases hh with (hh | ⟨o, hh⟩) | hh
                  · refine .inl (.inl ?_)
                    rw [upd_ne (fun z => by rw [z, eD4] at hh; cases hh)]
                    exact hh
                  · refine .inl (.inr ⟨o, ?_⟩)
                    rw [upd_ne (fun z => by rw [z, eD4] at hh; cases hh)]
                    exact hh
                  · exact .inr hh
                · intro a xs hh
                  rcases hh with ⟨o, hh⟩ | hh
                  · refine .inl ⟨o, ?_⟩
                    rw [upd_ne (fun z => by rw [z, eD4] at hh; cases hh)]
                    exact hh
                  · exact .inr hh
              refine ⟨m4, st', acc ++ [y], vs ++ [w], ⟨P.ex, fun a o h1 h2 => ?_, fun a o u h1 => ?_, P.nw, P.rel.inj, P.rel.len, fun l a o h1 h2 => ?_⟩, nD4, upd_same, ?_, by rw [List.length_append]; simp; omega, by omega, hout⟩
              · rw [upd_ne (fun z => by rw [z, hD] at h1; cases h1)]
                exact P.fr a o h1 h2
              · rw [upd_ne (fun z => by rw [z, hD] at h1; cases h1)]
                exact P.fz a o u h1
              · refine (P.rel.obj l a o h1 h2).mono sD (fun _ _ h => h) ?_
                rw [upd_ne]
                intro z
                exact nD4 (by rw [← z]; exact List.mem_of_getElem? h1)
              · exact VRs.mono sD (fun _ _ h => h) (hacc4.append (.cons vw .nil))
        have hb2 : body x st2 = (match t.put x (wipeE env own) st2 with
          | some env' => ((evE C c env' st2).bind asB).bind fun k st' => if k then (evE C e env' st').bind fun y st'' => Rs.ok (some y) st'' else Rs.ok none st'
          | none => Rs.bad) := by rw [← hbody]
        rw [hb2] at hB
        cases hput : t.put x (wipeE env own) st2 with
        | none =>
          rw [hput] at hB
          exact hB.elim
        | some env' =>
          rw [hput] at hB
          dsimp only at hB
          have ev3 : EV X.K (L2.wipe σ own) H' m2 (wipeE env own) := (EV.mono P2.rel P3 (EV.mono R1 P2 ev1)).wipe own
          refine ⟨m2, wipeE env own, st2, x, env', P3.rel, ev3, vx, hput, fun σ2 ev4 sb => ⟨?_, ?_⟩⟩
          · rw [sb.wipe hown, wipe_wipe]
          · have hB' : Out X.K cx WF σ2 m2 H' (((evE C c env' st2).bind asB).bind fun k st' => if k then (evE C e env' st').bind fun y st'' => Rs.ok (some y) st'' else Rs.ok none st') _ := hB
            refine ⟨m2, env', st2, ⟨P3.rel, ev4.er⟩, hB'.bind.mono fun k m5 H5 st5 P5 q5 => ?_⟩
            cases k with
            | false =>
              rw [if_neg Bool.false_ne_true]
              exact (show Out _ _ _ _ _ _ (Rs.ok none st5) _ from q5).now P5.rel
            | true =>
              rw [if_pos rfl]
              have q5' : Out X.K cx WF σ2 m5 H5 ((evE C e env' st5).bind fun y st'' => Rs.ok (some y) st'') _ := q5
              refine ⟨m5, env', st5, ⟨P5.rel, (ev4.mono P3.rel P5).er⟩, q5'.bind.mono fun y m6 H6 st6 P6 q6 w vw => ?_⟩
              have q7 := q6.now P6.rel w vw
              have nD5 : D ∉ m5 := fun z => by
                have := P5.nw D z nD2
                rw [eD3] at this
                cases this
              have eD5 := P5.fr D _ eD3 nD2
              have eD6 := P6.fr D _ eD5 nD5
              refine ⟨vs, eD6, ?_, q7⟩
              rw [← hacc.length, sizeLine_eq]
              omega
theorem px_comp {own : List (Str × Nat)} {itf : List A → Sto → Rs It} {es : Es} {t : T} {tc te : E} {elt tg iter : Expr} {ifs : List Expr} {scope : Scope} {pos : Pos} (hc : X.calm = true) (hN : X.N.Nodup) (hi : PXI X cx W C tg iter itf es) (ok : BlkOk X.N X.env.scope scope own)
    (hg : ∀ (s : Shared) (H : Hp) (D : Addr) (cl : List (Str × Addr)) (fp : List Addr), PG (X.blk s H scope (compEnvC scope cl D X.env) fp) tg (tG X.K t))
    (ht : ∀ (s : Shared) (H : Hp) (D : Addr) (cl : List (Str × Addr)) (fp : List Addr), PTs (X.blk s H scope (compEnvC scope cl D X.env) fp) ifs (tIT X.K cx none WF (evE C tc)))
    (he : ∀ (s : Shared) (H : Hp) (D : Addr) (cl : List (Str × Addr)) (fp : List Addr), PX (X.blk s H scope (compEnvC scope cl D X.env) fp) cx none WF C elt te) (hown : ∀ i ∈ t.ixs, i ∈ own.map (·.2) := by decide) (hs : ∀ x, foldedSetIterable iter X.env x = pure x := by intro _; rfl) :
    PX X cx none W C (.ListComp elt [⟨tg, iter, ifs, 0⟩] scope pos) (.comp (own.map (·.2)) itf es t tc te) := (pe_lc hc hN hi ok hg ht he hs).weak (comp_run hown)
theorem pts_true {X : Cx} : PTs X [] (tIT X.K cx none WF (evE C (.c (.bl true)))) := ⟨fun pins s σ H Q I ⟨m, env, st, ra, h⟩ => (pts_nil (X := X)).run pins s σ H Q I (by
  rw [evE] at h
  have h2 : Out X.K cx WF σ m H (Rs.ok true st) _ := h
  exact h2.now ra.rel)⟩
theorem pts_if {X : Cx} {c : Expr} {tc : E} (h : PXT X cx none WF C c tc) : PTs X [c] (tIT X.K cx none WF (evE C tc)) := pts_one h
end
end MP

/-! Statements (own work). -/
namespace MP
open PySem PySem.Spec PyProof.Rows L2

def SOut (K : PySem.W.Frag) (cx : Str → Option Addr) (W : WX) (m : List Addr) (H : Hp) (r : SO) (D : Ends) : Prop := match r with
  | .nx env' st' => ∀ σ' H' m', Post K m H m' H' st' → EV K σ' H' m' env' → D.nx σ' H'
  | .rt a st' => ∀ v H' m', Post K m H m' H' st' → VR K m' H' a v → D.rt v H'
  | .bk env' st' => ∀ σ' H' m', Post K m H m' H' st' → EV K σ' H' m' env' → D.bk σ' H'
  | .ct env' st' => ∀ σ' H' m', Post K m H m' H' st' → EV K σ' H' m' env' → D.ct σ' H'
  | .ex c fs env' st' => ∀ cls d σ' H' m', Post K m H m' H' st' → EV K σ' H' m' env' → XR K cx m' H' c fs cls d → W cls d σ' H'
  | .bad => False
section
variable {K : PySem.W.Frag} {cx : Str → Option Addr} {W : WX} {m m1 : List Addr} {H H1 : Hp} {st st1 : Sto} {D : Ends} {r : SO} {σ : L2.St} {env : En}
theorem SOut.shift (h : SOut K cx W m H r D) (p : Post K m H m1 H1 st1) : SOut K cx W m1 H1 r D := by
  cases r with
  | nx e s => exact fun σ' H' m' q => h σ' H' m' (p.trans q)
  | rt e s => exact fun σ' H' m' q => h σ' H' m' (p.trans q)
  | bk e s => exact fun σ' H' m' q => h σ' H' m' (p.trans q)
  | ct e s => exact fun σ' H' m' q => h σ' H' m' (p.trans q)
  | ex c fs e s => exact fun cls d σ' H' m' q => h cls d σ' H' m' (p.trans q)
  | bad => exact h
theorem SOut.toS {α : Type} {r : Rs α} {f : α → Sto → SO} (R : Rel K m H st) (ev : EV K σ H m env) (h : SOut K cx W m H (r.toS env f) D) : Out K cx W σ m H r fun a m1 H1 st1 => SOut K cx W m1 H1 (f a st1) D := by
  cases r with
  | ok a s => exact fun H' m' q => SOut.shift (r := f a s) h q
  | exc c fs s => exact fun cls d H' m' q x => h cls d σ H' m' q (ev.mono R q) x
  | bad => exact h
theorem SOut.nx (R : Rel K m H st) (ev : EV K σ H m env) (h : SOut K cx W m H (.nx env st) D) : D.nx σ H := h σ H m (Post.refl R) ev
end
def tS (K : PySem.W.Frag) (cx : Str → Option Addr) (W : WX) (ev : En → Sto → SO) : TS := fun D σ H => ∃ m env st, Rel K m H st ∧ EV K σ H m env ∧ SOut K cx W m H (ev env st) D
section
variable {X : Cx} {cx : Str → Option Addr} {W : WX} {C : CallT}
abbrev PSX (X : Cx) (cx : Str → Option Addr) (W : WX) (C : CallT) (s : Stmt) (t : S) : Prop := PS X s (tS X.K cx W (evS C t))
abbrev PSsX (X : Cx) (cx : Str → Option Addr) (W : WX) (C : CallT) (s : List Stmt) (t : Ss) : Prop := PSs X s (tS X.K cx W (evSs C t))
theorem sx_nil : PSsX X cx W C [] .nil := pss_nil.weak fun D σ H ⟨m, env, st, R, ev, h⟩ => by
  rw [evSs] at h
  exact h.nx R ev
theorem sx_cons {s : Stmt} {ss : List Stmt} {t : S} {ts : Ss} (h1 : PSX X cx W C s t) (h2 : PSsX X cx W C ss ts) : PSsX X cx W C (s :: ss) (.cons t ts) := (pss_cons h1 h2).weak fun D σ H ⟨m, env, st, R, ev, h⟩ => by
  rw [evSs] at h
  refine ⟨m, env, st, R, ev, ?_⟩
  cases e : evS C t env st with
  | nx env' st' =>
    rw [e] at h
    exact fun σ' H' m' p ev' => ⟨m', env', st', p.rel, ev', SOut.shift (r := evSs C ts env' st') h p⟩
  | rt a s => rw [e] at h; exact h
  | bk a s => rw [e] at h; exact h
  | ct a s => rw [e] at h; exact h
  | ex a b c d => rw [e] at h; exact h
  | bad => rw [e] at h; exact h
section
variable {e : Expr} {te : E} {pos : Pos}
theorem asg_run {t : T} : ∀ (D : Ends) (σ : L2.St) (H : Hp), tS X.K cx W (evS C (.asg t te)) D σ H → tI X.K cx none W (evE C te) σ H fun x H1 => tG X.K t x σ H1 D.nx := fun D σ H ⟨m, env, st, R, ev, h⟩ => by
  rw [evS] at h
  refine ⟨m, env, st, ⟨R, ev.er⟩, (SOut.toS R ev h).mono fun a m1 H1 st1 p1 q1 v vv => ?_⟩
  have ev1 := ev.mono R p1
  cases hp : t.put a env st1 with
  | none =>
    rw [hp] at q1
    exact q1.elim
  | some env' =>
    rw [hp] at q1
    exact ⟨m1, env, st1, a, env', p1.rel, ev1, vv, hp, fun σ' ev' _ => q1.nx p1.rel ev'⟩
/-- name = e -/
theorem sx_set (i : Nat) {x : Str} {pos' : Pos} (hN : X.N.Nodup) (he : PX X cx none W C e te) (hi : X.N[i]? = some x := by rfl) (hx : Loc X.env.scope x := by first | exact Or.inl rfl | exact Or.inr rfl) (hs : swapsWith e (some (.Name x pos')) pos.line X.env = pure false := by rfl)
    (hf : X.fn x = true ∨ X.env.scope.names.lookup x = some .local := by first | exact .inl rfl | exact .inr rfl | assumption) : PSX X cx W C (.Assign [.Name x pos'] e pos) (.asg (.name i) te) := (ps_set hN hi hx he hs hf).weak fun D σ H ⟨m, env, st, R, ev, h⟩ => by
  rw [evS] at h
  refine ⟨m, env, st, ⟨R, ev.er⟩, (SOut.toS R ev h).mono fun a m1 H1 st1 p1 q1 v vv => ?_⟩
  rw [T.put] at q1
  exact q1.nx p1.rel ((ev.mono R p1).set i vv)
/-- target = e -/
theorem sx_asg {tg : Expr} {t : T} (he : PX X cx none W C e te) (hg : PG X tg (tG X.K t)) (hs : swapsWithSole [tg] e pos.line X.env = pure false := by rfl) (hw : swappedStores [tg] e X.env = pure none := by rfl) (h1 : (assignEach [tg] X.env).map (·.2) = [assign tg X.env] := by rfl) :
    PSX X cx W C (.Assign [tg] e pos) (.asg t te) := (ps_asg he hg hs hw h1).weak asg_run
/-- name = [..] -/
theorem sx_setComp (i : Nat) {y : Str} {py : Pos} {own : List (Str × Nat)} {itf : List A → Sto → Rs It} {es : Es} {t : T} {tc tl : E} {elt tg iter : Expr} {ifs : List Expr} {scope : Scope} {spos : Pos} (hc : X.calm = true) (hN : X.N.Nodup)
    (hsw : swapsWith (.ListComp elt [⟨tg, iter, ifs, 0⟩] scope pos) (some (.Name y py)) spos.line X.env = pure true) (hi : PXI X cx W C tg iter itf es) (ok : BlkOk X.N X.env.scope scope own)
    (hg : ∀ (s : Shared) (H : Hp) (D : Addr) (cl : List (Str × Addr)) (fp : List Addr), PG (X.blk s H scope (compEnvC scope cl D X.env) fp) tg (tG X.K t))
    (ht : ∀ (s : Shared) (H : Hp) (D : Addr) (cl : List (Str × Addr)) (fp : List Addr), PTs (X.blk s H scope (compEnvC scope cl D X.env) fp) ifs (tIT X.K cx none WF (evE C tc)))
    (he : ∀ (s : Shared) (H : Hp) (D : Addr) (cl : List (Str × Addr)) (fp : List Addr), PX (X.blk s H scope (compEnvC scope cl D X.env) fp) cx none WF C elt tl) (hown : ∀ i ∈ t.ixs, i ∈ own.map (·.2) := by decide)
    (hy : X.N[i]? = some y := by rfl) (hyl : X.env.scope.names.lookup y = some .local := by rfl) (hs : ∀ x, foldedSetIterable iter X.env x = pure x := by intro _; rfl) :
    PSX X cx W C (.Assign [.Name y py] (.ListComp elt [⟨tg, iter, ifs, 0⟩] scope pos) spos) (.asg (.name i) (.comp (own.map (·.2)) itf es t tc tl)) := (ps_setLc hc hN hy hyl hsw hi ok hg ht he hs).weak fun D σ H ⟨m, env, st, R, ev, h⟩ => by
  rw [evS] at h
  refine comp_run hown σ H _ ⟨m, env, st, ⟨R, ev.er⟩, (SOut.toS R ev h).mono fun a m1 H1 st1 p1 q1 v vv => ?_⟩
  rw [T.put] at q1
  exact q1.nx p1.rel ((ev.mono R p1).set i vv)
def fTupN (as : List A) (st : Sto) : Rs A := .ok (.tup as) st
/-- a, b = x, y -/
theorem sx_par (i j : Nat) {x y : Str} {a b : Expr} {ts : Es} {px py pt : Pos} {kt k2 : Nat} {pt2 : Pos} (hc : X.calm = true) (hN : X.N.Nodup) (ha : PXA X cx none W C [a, b] ts) (hl : ts.ln = some 2 := by rfl) (hi : X.N[i]? = some x := by rfl) (hj : X.N[j]? = some y := by rfl) (hij : i ≠ j := by decide)
    (hx : X.env.scope.names.lookup x = some .local := by rfl) (hy : X.env.scope.names.lookup y = some .local := by rfl) (hw : swappedStores [.Tuple [.Name x px, .Name y py] kt pt] (.Tuple [a, b] k2 pt2) X.env = pure (some [x, y]) := by rfl)
    (hs : swapsWithSole [.Tuple [.Name x px, .Name y py] kt pt] (.Tuple [a, b] k2 pt2) pos.line X.env = pure false := by rfl) :
    PSX X cx W C (.Assign [.Tuple [.Name x px, .Name y py] kt pt] (.Tuple [a, b] k2 pt2) pos) (.asg (.tup [.name i, .name j]) (.pn fTup ts)) := (ps_par hc hN hi hj hij hx hy ha hw hs).weak fun D σ H ⟨m, env, st, R, ev, h⟩ => by
  rw [evS, evE] at h
  refine ⟨m, env, st, ⟨R, ev.er⟩, (SOut.toS R ev h).bind.eq.mono fun xs m1 H1 st1 p1 ⟨q1, eq⟩ vs vvs => ?_⟩
  have hlen := evEs_len ts _ _ _ _ _ eq hl
  match xs, hlen, vvs with
  | [a, b], _, vvs =>
    obtain ⟨v, w, rfl, va, vb⟩ := vvs.two_inv
    have q2 := (show Out X.K cx W σ m1 H1 (Rs.ok (A.tup [a, b]) st1) _ from q1).now p1.rel
    simp only [T.put, T.puts] at q2
    exact ⟨v, w, rfl, q2.nx p1.rel (((ev.mono R p1).set i va).set j vb)⟩
theorem sx_par3 (i j l : Nat) {x y z : Str} {a b c : Expr} {ts : Es} {px py pz pt : Pos} {kt k2 : Nat} {pt2 : Pos} (hc : X.calm = true) (hN : X.N.Nodup) (ha : PXA X cx none W C [a, b, c] ts) (hl : ts.ln = some 3 := by rfl) (hi : X.N[i]? = some x := by rfl) (hj : X.N[j]? = some y := by rfl) (hk : X.N[l]? = some z := by rfl) (hij : i ≠ j := by decide) (hil : i ≠ l := by decide) (hjl : j ≠ l := by decide)
    (hx : X.env.scope.names.lookup x = some .local := by rfl) (hy : X.env.scope.names.lookup y = some .local := by rfl) (hz : X.env.scope.names.lookup z = some .local := by rfl) (hw : swappedStores [.Tuple [.Name x px, .Name y py, .Name z pz] kt pt] (.Tuple [a, b, c] k2 pt2) X.env = pure (some [x, y, z]) := by rfl)
    (hs : swapsWithSole [.Tuple [.Name x px, .Name y py, .Name z pz] kt pt] (.Tuple [a, b, c] k2 pt2) pos.line X.env = pure false := by rfl) :
    PSX X cx W C (.Assign [.Tuple [.Name x px, .Name y py, .Name z pz] kt pt] (.Tuple [a, b, c] k2 pt2) pos) (.asg (.tup [.name i, .name j, .name l]) (.pn fTup ts)) := (ps_par3 hc hN hi hj hk hij hil hjl hx hy hz ha hw hs).weak fun D σ H ⟨m, env, st, R, ev, h⟩ => by
  rw [evS, evE] at h
  refine ⟨m, env, st, ⟨R, ev.er⟩, (SOut.toS R ev h).bind.eq.mono fun xs m1 H1 st1 p1 ⟨q1, eq⟩ vs vvs => ?_⟩
  have hlen := evEs_len ts _ _ _ _ _ eq hl
  match xs, hlen, vvs with
  | [a, b, c], _, vvs =>
    cases vvs with
    | cons va vr =>
      obtain ⟨v, w, rfl, vb, vc⟩ := vr.two_inv
      have q2 := (show Out X.K cx W σ m1 H1 (Rs.ok (A.tup [a, b, c]) st1) _ from q1).now p1.rel
      simp only [T.put, T.puts] at q2
      exact ⟨_, v, w, rfl, q2.nx p1.rel ((((ev.mono R p1).set i va).set j vb).set l vc)⟩
/-- x op= e -/
theorem sx_aug (i : Nat) {x : Str} {pos' : Pos} {op : Operator} {f : A → A → Sto → Rs A} {r : R2} (hN : X.N.Nodup) (ho : OpR X (inplaceOp op) r) (hfs : OpS X.K f r) (he : PX X cx none W C e te) (hi : X.N[i]? = some x := by rfl) (hx : Loc X.env.scope x := by first | exact Or.inl rfl | exact Or.inr rfl)
    (hf : X.fn x = true ∨ X.env.scope.names.lookup x = some .local := by first | exact .inl rfl | exact .inr rfl | assumption) : PSX X cx W C (.AugAssign (.Name x pos') op e pos) (.asg (.name i) (.p2 f (.var i) te)) := (ps_aug hN hi hx he (ti := r) ho hf).weak fun D σ H ⟨m, env, st, R, ev, h⟩ => by
  rw [evS, evE] at h
  have h1 := (SOut.toS R ev h).bind
  rw [evE] at h1
  cases hv : env[i]? with
  | none =>
    rw [hv] at h1
    exact h1.elim
  | some o =>
    cases o with
    | none =>
      rw [hv] at h1
      exact h1.elim
    | some a =>
      rw [hv] at h1
      obtain ⟨v, e1, vr⟩ := ev.get i a hv
      have h2 := h1.now R
      refine ⟨v, e1, m, env, st, ⟨R, ev.er⟩, h2.bind.mono fun b m1 H1 st1 p1 q1 w vw => ?_⟩
      refine (hfs m1 H1 st1 a b v w p1.rel (p1.vr R vr) vw).use (q1.mono fun c m2 H2 st2 p2 q2 z vz => ?_)
      rw [T.put] at q2
      exact q2.nx p2.rel (((ev.mono R p1).mono p1.rel p2).set i vz)
theorem sx_expr (he : PX X cx none W C e te) (hs : swapsWith e none pos.line X.env = pure false := by rfl) : PSX X cx W C (.Expr e pos) (.expr te) := (ps_expr he hs).weak fun D σ H ⟨m, env, st, R, ev, h⟩ => by
  rw [evS] at h
  exact ⟨m, env, st, ⟨R, ev.er⟩, (SOut.toS R ev h).mono fun a m1 H1 st1 p1 q1 v vv => q1.nx p1.rel (ev.mono R p1)⟩
theorem sx_ret (he : PX X cx none W C e te) : PSX X cx W C (.Return (some e) pos) (.ret te) := (ps_ret he).weak fun D σ H ⟨m, env, st, R, ev, h⟩ => by
  rw [evS] at h
  exact ⟨m, env, st, ⟨R, ev.er⟩, (SOut.toS R ev h).mono fun a m1 H1 st1 p1 q1 v vv => q1 v H1 m1 (Post.refl p1.rel) vv⟩
theorem sx_pass : PSX X cx W C (.Pass pos) .pass := ps_pass.weak fun D σ H ⟨m, env, st, R, ev, h⟩ => by
  rw [evS] at h
  exact h.nx R ev
theorem sx_break : PSX X cx W C (.Break pos) .brk := ps_break.weak fun D σ H ⟨m, env, st, R, ev, h⟩ => by
  rw [evS] at h
  exact h σ H m (Post.refl R) ev
theorem sx_continue : PSX X cx W C (.Continue pos) .cont := ps_continue.weak fun D σ H ⟨m, env, st, R, ev, h⟩ => by
  rw [evS] at h
  exact h σ H m (Post.refl R) ev
theorem sx_if {a b : List Stmt} {ta tb : Ss} (hc : PXT X cx none W C e te) (ha : PSsX X cx W C a ta) (hb : PSsX X cx W C b tb) : PSX X cx W C (.If e a b pos) (.ite te ta tb) := (ps_if hc ha hb).weak fun D σ H ⟨m, env, st, R, ev, h⟩ => by
  rw [evS] at h
  refine ⟨m, env, st, ⟨R, ev.er⟩, (SOut.toS R ev h).mono fun k m1 H1 st1 p1 q1 => ?_⟩
  cases k with
  | true => exact ⟨m1, env, st1, p1.rel, ev.mono R p1, q1⟩
  | false => exact ⟨m1, env, st1, p1.rel, ev.mono R p1, q1⟩
/-- o[i] = e -/
theorem sx_setIx {o i : Expr} {to ti : E} {sp : Pos} {r : TSet} (hp : PSet X r) (hr : ∀ (m : List Addr) (H : Hp) (st st' : Sto) (a b c : A) (x y z : V) (Q : Hp → Prop), Rel X.K m H st → VR X.K m H a x → VR X.K m H b y → VR X.K m H c z → setAt a b c st = some st' → (∀ H', Post X.K m H m H' st' → Q H') → r x y z H Q)
    (he : PX X cx none W C e te) (ho : PX X cx none W C o to) (hi : PX X cx none W C i ti)
    (ha : ∀ v, assign (.Subscript o i sp) X.env v = (do
      let ov ← holding [v] (eval o X.env)
      let iv ← holding [v, ov] (eval i X.env)
      standAt sp
      holding [v, ov, iv] (setItem ov iv v)
      release [v, ov, iv] []) := by intro _; rfl)
    (hs : swapsWithSole [.Subscript o i sp] e pos.line X.env = pure false := by rfl) (hw : swappedStores [.Subscript o i sp] e X.env = pure none := by rfl) (h1 : (assignEach [.Subscript o i sp] X.env).map (·.2) = [assign (.Subscript o i sp) X.env] := by rfl) :
    PSX X cx W C (.Assign [.Subscript o i sp] e pos) (.setIx to ti te) := (ps_asg he (pg_sub ho hi hp ha) hs hw h1).weak fun D σ H ⟨m, env, st, R, ev, h⟩ => by
  rw [evS] at h
  refine ⟨m, env, st, ⟨R, ev.er⟩, (SOut.toS R ev h).mono fun c m1 H1 st1 p1 q1 z vz => ?_⟩
  have ev1 := ev.mono R p1
  refine ⟨m1, env, st1, ⟨p1.rel, ev1.er⟩, (SOut.toS p1.rel ev1 q1).mono fun a m2 H2 st2 p2 q2 x vx => ?_⟩
  have ev2 := ev1.mono p1.rel p2
  refine ⟨m2, env, st2, ⟨p2.rel, ev2.er⟩, (SOut.toS p2.rel ev2 q2).mono fun b m3 H3 st3 p3 q3 y vy => ?_⟩
  have ev3 := ev2.mono p2.rel p3
  cases hq : setAt a b c st3 with
  | none =>
    rw [hq] at q3
    exact q3.elim
  | some st4 =>
    rw [hq] at q3
    refine hr m3 H3 st3 st4 a b c x y z _ p3.rel (p3.vr p2.rel vx) vy (p3.vr p2.rel (p2.vr p1.rel vz)) hq fun H' P => ?_
    exact q3 σ H' m3 P (ev3.mono p3.rel P)
theorem sx_while {body : List Stmt} {tb : Ss} {fuel : Nat} (hp : PassesOwn (model X.prog X.w) X.A X.env X.xe) (hc : PXT X cx none W C e te) (hb : PSsX X cx W C body tb) : PSX X cx W C (.While e body [] pos) (.whl fuel te tb) := (ps_while hp hc hb).weak fun D σ H ⟨m, env, st, R, ev, h⟩ => by
  rw [evS] at h
  refine ⟨fun n σ H => ∃ m env st, Rel X.K m H st ∧ EV X.K σ H m env ∧ SOut X.K cx W m H (whlL (evE C te) (fun env st => evSs C tb env st) n env st) D, ⟨fuel, m, env, st, R, ev, h⟩, ?_⟩
  rintro n σ H ⟨m, env, st, R, ev, h⟩
  cases n with
  | zero =>
    rw [whlL] at h
    exact h.elim
  | succ n =>
    rw [whlL] at h
    refine ⟨m, env, st, ⟨R, ev.er⟩, (SOut.toS R ev h).mono fun k m1 H1 st1 p1 q1 => ?_⟩
    have ev1 := ev.mono R p1
    cases k with
    | false => exact (show SOut X.K cx W m1 H1 (.nx env st1) D from q1).nx p1.rel ev1
    | true =>
      refine ⟨fun σ H => ∃ m env st, Rel X.K m H st ∧ EV X.K σ H m env ∧ SOut X.K cx W m H (whlL (evE C te) (fun env st => evSs C tb env st) n env st) D, fun σ' H' h' => ⟨n, Nat.lt_succ_self n, h'⟩, m1, env, st1, p1.rel, ev1, ?_⟩
      have q2 : SOut X.K cx W m1 H1 (match evSs C tb env st1 with
        | .nx env' st' => whlL (evE C te) (fun env st => evSs C tb env st) n env' st'
        | .ct env' st' => whlL (evE C te) (fun env st => evSs C tb env st) n env' st'
        | .bk env' st' => .nx env' st'
        | r => r) D := q1
      cases hb : evSs C tb env st1 with
      | nx env' st' =>
        rw [hb] at q2
        exact fun σ' H' m' p ev' => ⟨m', env', st', p.rel, ev', SOut.shift q2 p⟩
      | ct env' st' =>
        rw [hb] at q2
        exact fun σ' H' m' p ev' => ⟨m', env', st', p.rel, ev', SOut.shift q2 p⟩
      | bk env' st' =>
        rw [hb] at q2
        exact q2
      | rt a s => rw [hb] at q2; exact q2
      | ex a b c d => rw [hb] at q2; exact q2
      | bad => rw [hb] at q2; exact q2
theorem sx_for {tg iter : Expr} {body : List Stmt} {tb : Ss} {itf : List A → Sto → Rs It} {es : Es} {t : T} (hp : PassesOwn (model X.prog X.w) X.A X.env X.xe) (hc : X.calm = true) (hi : PXI X cx W C tg iter itf es) (hg : PG X tg (tG X.K t)) (hb : PSsX X cx W C body tb)
    (hs : ∀ x, foldedSetIterable iter X.env x = pure x := by intro _; rfl) : PSX X cx W C (.For tg iter body [] pos) (.for_ itf es t tb) := (ps_for hp hc hi hg hb hs).weak fun D σ H ⟨m, env, st, R, ev, h⟩ => by
  rw [evS] at h
  have h0 : SOut X.K cx W m H (((evEs C es env st).bind itf).toS env fun it st2 => forL it (fun x env st => match t.put x env st with
        | some env' => evSs C tb env' st
        | none => .bad) (it.len st2 + 1) 0 env st2) D := by
    cases hes : evEs C es env st with
    | ok a s => rw [hes] at h; exact h
    | exc a b c => rw [hes] at h; exact h
    | bad => rw [hes] at h; exact h
  refine ⟨m, env, st, R, ev, (SOut.toS R ev h0).mono fun it m1 H1 st1 p1 q1 J hJ => ?_⟩
  have ev1 := ev.mono R p1
  generalize hbd : (fun (x : A) (env : En) (st : Sto) => match t.put x env st with
        | some env' => evSs C tb env' st
        | none => SO.bad) = bd at q1
  refine ⟨fun i n σ H => ∃ m env st, Post X.K m1 H1 m H st ∧ EV X.K σ H m env ∧ SOut X.K cx W m H (forL it bd n i env st) D, ⟨_, m1, env, st1, Post.refl p1.rel, ev1, q1⟩, ?_⟩
  rintro i n σ2 H2 ⟨m2, env2, st2, P2, ev2, h2⟩
  have hj := hJ m2 H2 st2 i (P2.stb p1.rel) P2.fz P2.get P2.rel
  cases n with
  | zero =>
    rw [forL] at h2
    exact h2.elim
  | succ n =>
    rw [forL] at h2
    cases hat : it.at i st2 with
    | none =>
      rw [hat] at h2
      exact h2.elim
    | some o =>
      rw [hat] at h2 hj
      cases o with
      | none => exact .inl ⟨hj, h2.nx P2.rel ev2⟩
      | some x =>
        dsimp only at hj h2
        refine .inr ⟨hj.1, fun σ H => ∃ m env st, Post X.K m1 H1 m H st ∧ EV X.K σ H m env ∧ SOut X.K cx W m H (forL it bd n (i + 1) env st) D, fun σ' H' h' => ⟨n, Nat.lt_succ_self n, h'⟩, fun v H' hy => ?_⟩
        obtain ⟨P3, vx⟩ := hj.2 v H' hy
        have P23 := P2.trans P3
        have ev3 := ev2.mono P2.rel P3
        have h3 := SOut.shift h2 P3
        have hb2 : bd x env2 st2 = (match t.put x env2 st2 with
          | some env' => evSs C tb env' st2
          | none => SO.bad) := by rw [← hbd]
        cases hput : t.put x env2 st2 with
        | none =>
          rw [hput] at hb2
          rw [hb2] at h3
          exact h3.elim
        | some env' =>
          rw [hput] at hb2
          dsimp only at hb2
          refine ⟨m2, env2, st2, x, env', P3.rel, ev3, vx, hput, fun σ' ev' _ => ⟨m2, env', st2, P3.rel, ev', ?_⟩⟩
          rw [hb2] at h3
          cases hb : evSs C tb env' st2 with
          | nx env' st' =>
            rw [hb] at h3
            exact fun σ' H' m' p ev' => ⟨m', env', st', P23.trans p, ev', SOut.shift h3 p⟩
          | ct env' st' =>
            rw [hb] at h3
            exact fun σ' H' m' p ev' => ⟨m', env', st', P23.trans p, ev', SOut.shift h3 p⟩
          | bk env' st' =>
            rw [hb] at h3
            exact h3
          | rt a s => rw [hb] at h3; exact h3
          | ex a b c d => rw [hb] at h3; exact h3
          | bad => rw [hb] at h3; exact h3
end
end
end MP

/-! raise, try; a def by its body; the three ways of a call (own work). -/
namespace MP
open PySem PySem.Spec PyProof.Rows L2

/-! ### raise -/
/-- the promise of def __init__(self, attr): self.attr = attr -/
def spInit (K : PySem.W.Frag) (attr : Str) : Sp := fun vs H Q _ => ∃ (a C : Addr) (v : V), vs = [.ref a, v] ∧ OexC K C ∧ PySem.W.findIn K (.ref C) attr = some none ∧ H a = some (exo a C none) ∧
  ∀ dx, H dx = none → dx ≠ a → Q .non (upd (upd H dx (exd dx [(attr, v)])) a (exo a C (some dx)))
/-- an own error class with one field -/
structure XCls (P : Program) (w : World) (K : PySem.W.Frag) (mg : Str → Option Value) (base : Heap) (cx : Str → Option Addr) (x attr : Str) (C fI : Addr) (fd : FuncData) : Prop where
  T : OexC K C
  iC : PySem.W.findIn K (.ref C) "__init__" = some (some (.ref fI))
  tI : PySem.W.typeIn K (.ref fI) = some (.type "function")
  F1 : FnOk P w K mg base CX0 1 fI fd ["self", attr] (spInit K attr)
  bn : Binds K fd ["self", attr] []
  mg : mg x = some (.ref C)
  no : PySem.W.findIn K (.ref C) attr = some none
  cx : cx x = some C
theorem Post.more {K : PySem.W.Frag} {m : List Addr} {H H' : Hp} {st : Sto} (R : Rel K m H st) (h : ∀ b o, H b = some o → H' b = some o) : Post K m H m H' st := by
  have s : Stb K H H' := by
    constructor
    · intro a xs q
      rcases q with (q | ⟨o, q⟩) | q
      · exact .inl (.inl (h _ _ q))
      · exact .inl (.inr ⟨o, h _ _ q⟩)
      · exact .inr q
    · intro a xs q
      rcases q with ⟨o, q⟩ | q
      · exact .inl ⟨o, h _ _ q⟩
      · exact .inr q
  refine ⟨⟨[], by simp⟩, fun a o e _ => h a o e, fun a o u e => h _ _ e, fun a e n => absurd e n, R.inj, R.len, fun l a o h1 h2 => (R.obj l a o h1 h2).mono s (fun _ _ h => h) ?_⟩
  obtain ⟨v, e, _⟩ := R.live (List.mem_of_getElem? h1)
  rw [e]
  exact h _ _ e
section
variable {X : Cx} {cx : Str → Option Addr} {W : WX} {C : CallT}
theorem sx_raise1 {x attr : Str} {Cc fI : Addr} {fd : FuncData} {e : Expr} {te : E} {p pos pos2 : Pos} (hc : X.calm = true) (T : XCls X.prog X.w X.K X.mg X.base cx x attr Cc fI fd) (hr : Room 2 X.A) (tk : Takes X W) (he : PX X cx none W C e te) (hg : Gl X x := by rfl)
    (hdb : (x == ("__debug__" : Str)) = false := by decide) (hst : starEach (e :: []) X.env = (false, eval e X.env) :: starEach [] X.env := by rfl) (hpl : (backTo pos (starEach [] X.env)).any (·.1) = false := by rfl) :
    PSX X cx W C (.Raise (some (.Call (.Name x p) [e] [] pos)) none pos2) (.rais x [attr] (.cons te .nil)) :=
  (ps_raise hc tk (pmk_oex T.T T.iC T.tI T.F1 hr T.bn .nil pass0 hg T.mg (pxa_cons he pxa_nil hst) hdb hst hpl)).weak fun D σ H ⟨m, env, st, R, ev, h⟩ => by
    rw [evS] at h
    refine ⟨m, env, st, ⟨R, ev.er⟩, (SOut.toS R ev h).eq.mono fun xs m1 H1 st1 p1 ⟨q1, eq⟩ vs vvs => ?_⟩
    have hlen := evEs_len (.cons te .nil) _ _ _ _ 1 eq rfl
    match xs, hlen, vvs with
    | [y], _, vvs =>
      obtain ⟨v, rfl, vr⟩ := vvs.one_inv
      refine ⟨by show 1 ≤ 1000; decide, fun a ha => ⟨a, Cc, v, rfl, T.T, T.no, upd_same, fun dx hdx hne => ⟨rfl, dx, [(attr, v)], upd_same, ?_, ?_, ?_⟩⟩⟩
      · rw [upd_ne hne, upd_same]
      · rw [upd_ne hne] at hdx
        exact hdx
      · rw [upd_ne hne] at hdx
        have hq : SOut X.K cx W m1 H1 (.ex x [(attr, y)] env st1) D := q1
        have keep : ∀ b o, H1 b = some o → upd (del (upd (upd (upd H1 a (exo a Cc none)) dx (exd dx [(attr, v)])) a (exo a Cc (some dx))) a) dx (.xd [(attr, v)]) b = some o := fun b o e => by
          rw [upd_ne (ne_of_none e hdx), del_ne (ne_of_none e ha), upd_ne (ne_of_none e ha), upd_ne (ne_of_none e hdx), upd_ne (ne_of_none e ha)]
          exact e
        have PM := Post.more p1.rel keep
        refine hq _ _ σ _ m1 PM ((ev.mono R p1).mono p1.rel PM) ⟨Cc, T.cx, rfl, .inr ⟨dx, [(attr, v)], rfl, upd_same, fun k pb hb => ?_⟩⟩
        cases k with
        | succ k => simp at hb
        | zero =>
          have : pb = (attr, y) := by simpa using hb.symm
          subst this
          exact ⟨v, by simp [List.lookup], PM.vr p1.rel vr⟩
end
/-- def __init__(self, attr): self.attr = attr keeps spInit -/
theorem init_ok {P : Program} {w : World} {K : PySem.W.Frag} {mg : Str → Option Value} {base : Heap} {qual attr : Str} {s : Stmt} {f : Addr} {fd : FuncData} {p1 p2 p3 p4 : Pos} (F : Fun K "__init__" qual s f fd) (S : FnScope ["self", attr] ["self", attr] (defScope s))
    (hb : defBody s = [.Assign [.Attribute (.Name "self" p1) attr p2] (.Name attr p3) p4]) (hs1 : (defScope s).names.lookup ("self" : Str) = some NameKind.local) (hs2 : (defScope s).names.lookup attr = some NameKind.local) (hd : (attr == ("__debug__" : Str)) = false) (hcd : (attr == ("__classdict__" : Str)) = false)
    (hsw : ∀ env, swapsWith (.Name attr p3) (some (.Attribute (.Name "self" p1) attr p2)) p4.line env = pure false) : FnOk P w K mg base CX0 1 f fd ["self", attr] (spInit K attr) := by
  refine F.ok (k := 0) S (fun vs H Q E h => ?_) (fun cdv A outer s0 H vs Q E hr h => ?_)
  · obtain ⟨a, C, v, rfl, _⟩ := h
    rfl
  · obtain ⟨a, C, v, rfl, T, hno, ha, q⟩ := h
    refine ⟨tOst K attr (tVar 0) (tVar 1), ?_, ?_⟩
    · rw [hb]
      exact pss_one (ps_ost (f := attr) (pe_var (i := 0) rfl (.inl hs1)) (pe_var (i := 1) rfl (.inl hs2) hd hcd) (hsw _))
    · exact ⟨v, rfl, .ref a, rfl, a, C, rfl, T, hno, .inl ⟨ha, fun dx h1 h2 => q dx h1 h2⟩⟩

/-! ### try -/
/-- what the clauses wish of an exception of the body, one after the other; some with a name -/
def wManyA (K : PySem.W.Frag) (Wout : WX) (D : Ends) : List (Value × Option Nat × (Addr → Value → Option Addr → TS)) → WX
  | [] => Wout
  | (c, none, ts) :: r => fun cls d σ H => ∃ b, PySem.W.exmOne K cls c = some b ∧ (b = true → ∀ a, H a = none → ts a cls d D σ H) ∧ (b = false → wManyA K Wout D r cls d σ H)
  | (c, some i, ts) :: r => fun cls d σ H => ∃ b, PySem.W.exmOne K cls c = some b ∧
      (b = true → ∀ a, H a = none → ts a cls d { nx := fun σ' H' => D.nx (σ'.set i none) H', rt := D.rt, bk := fun σ' H' => D.bk (σ'.set i none) H', ct := fun σ' H' => D.ct (σ'.set i none) H' } (σ.set i (some (.ref a))) H) ∧ (b = false → wManyA K Wout D r cls d σ H)
inductive HdsA (X : Cx) : List ExceptHandler → List (Value × Option Nat × (Addr → Value → Option Addr → TS)) → Prop
  | nil : HdsA X [] []
  | cons {x : Str} {c : Value} {ts : Addr → Value → Option Addr → TS} {b₀ : Stmt} {suite : List Stmt} {np pos' : Pos} {hds : List ExceptHandler} {l : List (Value × Option Nat × (Addr → Value → Option Addr → TS))} (hc : Names X x c)
      (hsu : ∀ (a : Addr) (oe : Obj) (cls : Value) (d : Option Addr) (pn : List (Addr × Obj)), Zc cls d oe → (∃ vs, oe.data = .fields vs) → PSs (X.suite a ((a, oe) :: pn)) (b₀ :: suite) (ts a cls d)) (r : HdsA X hds l) :
      HdsA X (.ExceptHandler (some (.Name x np)) none (b₀ :: suite) pos' :: hds) ((c, none, ts) :: l)
  | consA {x n : Str} {i : Nat} {c : Value} {ts : Addr → Value → Option Addr → TS} {b₀ : Stmt} {suite : List Stmt} {np pos' : Pos} {hds : List ExceptHandler} {l : List (Value × Option Nat × (Addr → Value → Option Addr → TS))} (hc : Names X x c) (hi : X.N[i]? = some n) (hln : X.env.kindOf n = some .local)
      (hsu : ∀ (a : Addr) (oe : Obj) (cls : Value) (d : Option Addr) (pn : List (Addr × Obj)), Zc cls d oe → (∃ vs, oe.data = .fields vs) → PSs (X.suite a ((a, oe) :: pn)) (b₀ :: suite) (ts a cls d)) (r : HdsA X hds l) :
      HdsA X (.ExceptHandler (some (.Name x np)) (some n) (b₀ :: suite) pos' :: hds) ((c, some i, ts) :: l)
section
variable {X : Cx} {body : List Stmt} {h₀ : ExceptHandler} {hds : List ExceptHandler} {l : List (Value × Option Nat × (Addr → Value → Option Addr → TS))} {pos : Pos} {tb : WX → TS} {Wout : WX}
theorem ps_try_manyA (hs : X.stack = X.env :: X.outer) (hf : X.env.frame = some X.env.locals) (hN : X.N.Nodup) (tk : Takes X Wout)
    (hb : ∀ (W : WX) (pn : List (Addr × Obj)) (xe : Value → Shared → Prop), Takes (X.tr pn xe) W → PassesOwn (model X.prog X.w) X.A X.env xe → PSs (X.tr pn xe) body (tb W))
    (hh : HdsA X (h₀ :: hds) l) : PS X (.Try body (h₀ :: hds) [] [] pos) (fun D σ H => tb (wManyA X.K Wout D l) D σ H) := by
  refine ⟨fun pins s σ H D I h => ?_⟩
  have ok := I.ok
  have hfr : X.A.frames = some (X.env :: X.outer) := by rw [ok.frames, hs]
  refine wpAny_Try_except ?_
  refine wpAny_mono ((hb (wManyA X.K Wout D l) (X.pn ++ pins) (fun e s₁ => wpAny (model X.prog X.w) X.A (noteFrame e X.env) (fun _ s₂ => wpAny (model X.prog X.w) X.A (setFlight e none) (fun _ s₃ =>
    wpAny (model X.prog X.w) X.A (handleBy e X.env (h₀ :: hds)) (SP X pins D) X.xe s₃) X.xe s₂) X.xe s₁) (fun u s' xx => ?_) PassesOwn.looking).run [] s σ H D (I.toTry _) h) (fun f s1 hsp => ?_) (fun e s1 he => he)
  · -- the catch
    obtain ⟨a, B, sI, pins', σ', H', cls, d, rfl, J', nb, up, sky, na, os, ag, w⟩ := xx
    have J : Inv X pins σ' H' sI := J'.ofTry ok
    have sky' : Sky B (X.env :: X.outer) a (Zc cls d) X.env.locals s'.heap := by rw [← hs]; exact sky
    show wpAny (model X.prog X.w) X.A (noteFrame (.ref a) X.env) _ _ _
    refine Sky.land Zc.steady hfr hf sky' fun h3 fl3 up3 => ?_
    have J3 : Inv X pins σ' H' { s' with heap := h3 } := J.landed nb fl3.1 (up.trans up3) os ag
    obtain ⟨oe3, vs3, he3, hz3, hd3⟩ := fl3.there
    have notFr : ∀ {h : Heap} {o : Obj} {vs : Array Value}, h.FunFrames B (X.env :: X.outer) → h.get? a = some o → o.data = .fields vs → a ∉ frs (X.env :: X.outer) := fun {h o vs} ff e dd hm => by
      obtain ⟨_, o', e', hnf⟩ := ff.mem hm
      rw [e] at e'; cases e'
      exact hnf _ dd
    have nfr := notFr fl3.2.2.1 he3 hd3
    have nL : a ≠ X.env.locals := fun z => nfr (List.mem_filterMap.mpr ⟨X.env, List.mem_cons_self, by rw [hf, z]⟩)
    have nF : a ∉ X.fs := fun hm => by
      obtain ⟨e, he, q⟩ := List.mem_filterMap.mp hm
      exact nfr (List.mem_filterMap.mpr ⟨e, List.mem_cons_of_mem _ he, q⟩)
    have S3 := J3.suite he3 hd3 na nL nF
    have go : ∀ {hds' : List ExceptHandler} {l' : List (Value × Option Nat × (Addr → Value → Option Addr → TS))}, HdsA X hds' l' → wManyA X.K Wout D l' cls d σ' H' →
        wpAny (model X.prog X.w) X.A (handleBy (.ref a) X.env hds') (SP X pins D) X.xe { s' with heap := h3 } := by
      intro hds' l' hk
      induction hk with
      | nil =>
        intro w
        refine wpAny_handleBy_nil ?_
        obtain ⟨k1, k2, k3, oe, vs, T, oT, ts', he, hz, hd, h1, hr⟩ := id fl3
        unfold PySem.passOn
        refine wpAny_bind (wpAny_field he hd h1 ?_)
        rw [if_neg (show ¬ ((Value.ref T == Value.none) = true) from by simp)]
        have fin : wpAny (model X.prog X.w) X.A (setFlight (.ref a) X.env.frame) (fun _ s4 => wpAny (model X.prog X.w) X.A (throw (.ref a) : Sem Flow) (SP X pins D) X.xe s4) X.xe { s' with heap := h3 } := by
          rw [hf]
          refine HandSPX.setFlight_upZ fl3 fun h4 hh4 up4 => wpAny_throw (tk _ _ ?_)
          exact ⟨a, B, sI, pins, σ', H', cls, d, rfl, J, nb, (up.trans up3).trans up4, .inr (.inr (by rw [hs]; exact hh4)), na, os, ag, w⟩
        first
          | exact wpAny_bind (wpAny_pure (wpAny_bind fin))
          | exact wpAny_bind fin
      | @cons x c ts b₀ suite np pos' hds2 l2 hc hsu r ih =>
        intro w
        obtain ⟨b, hb1, hyes, hno⟩ := w
        refine wpAny_handleBy_cons (codeAny_handlers_test ?_) (by intro q; cases q)
        have LT : PySem.W.Looks (model X.prog X.w) h3 (typeOf (.ref a)) cls := fun A Q E s k q => wpAny_typeOf_ref (k _ _ he3) (by rw [hz3.1]; exact q)
        have LM := PySem.W.exm_one (M := model X.prog X.w) (J3.kIn) LT hb1
        have test : ∀ {Q : Value → Shared → Prop} {E : Value → Shared → Prop}, Q c { s' with heap := h3 } → wpAny (model X.prog X.w) (X.A.mark (some (.ref a))) (eval (.Name x np) X.env) Q E { s' with heap := h3 } := fun {Q E} q => by
          obtain ⟨hg, hdbg, hm | ⟨hm, hv, hnn⟩⟩ := hc
          · exact ld_glob (X := X.suite a ((a, oe3) :: (X.pn ++ pins))) S3 hg hm q hdbg
          · exact ld_blt (X := X.suite a ((a, oe3) :: (X.pn ++ pins))) S3 hg hm hv q hnn hdbg
        refine test (LM.here ?_)
        cases b with
        | true =>
          refine codeAny_handlers_suite ?_
          refine HandSPX.lands_againZ fl3 fun h4 fl4 up4 => ?_
          have J4 : Inv X pins σ' H' { s' with heap := h4 } := J.landed nb fl4.1 ((up.trans up3).trans up4) os ag
          obtain ⟨oe4, vs4, he4, hz4, hd4⟩ := fl4.there
          have S4 := J4.suite he4 hd4 na nL nF
          refine wpAny_mono ((hsu a oe4 cls d (X.pn ++ pins) hz4 ⟨_, hd4⟩).run [] _ _ H' _ S4 (hyes rfl a na)) (fun f s6 hsp => ?_) (fun _ _ z => False.elim z)
          cases f with
          | next =>
            obtain ⟨σ6, H6, S6, q6⟩ := hsp
            exact ⟨_, _, S6.unsuite ok, q6⟩
          | brk =>
            obtain ⟨σ6, H6, S6, q6⟩ := hsp
            exact ⟨_, _, S6.unsuite ok, q6⟩
          | cont =>
            obtain ⟨σ6, H6, S6, q6⟩ := hsp
            exact ⟨_, _, S6.unsuite ok, q6⟩
          | ret u =>
            obtain ⟨v6, σ6, H6, S6, r6, q6⟩ := hsp
            exact ⟨_, _, _, S6.unsuite ok, r6, q6⟩
        | false =>
          show wpAny _ X.A (handleBy (.ref a) X.env hds2) _ _ _
          exact ih (hno rfl)
      | @consA x n i c ts b₀ suite np pos' hds2 l2 hc hi hln hsu r ih =>
        intro w
        obtain ⟨b, hb1, hyes, hno⟩ := w
        have hloc : Loc X.env.scope n := .inl hln
        refine wpAny_handleBy_cons (codeAny_handlers_test ?_) (by intro q; cases q)
        have LT : PySem.W.Looks (model X.prog X.w) h3 (typeOf (.ref a)) cls := fun A Q E s k q => wpAny_typeOf_ref (k _ _ he3) (by rw [hz3.1]; exact q)
        have LM := PySem.W.exm_one (M := model X.prog X.w) (J3.kIn) LT hb1
        have test : ∀ {Q : Value → Shared → Prop} {E : Value → Shared → Prop}, Q c { s' with heap := h3 } → wpAny (model X.prog X.w) (X.A.mark (some (.ref a))) (eval (.Name x np) X.env) Q E { s' with heap := h3 } := fun {Q E} q => by
          obtain ⟨hg, hdbg, hm | ⟨hm, hv, hnn⟩⟩ := hc
          · exact ld_glob (X := X.suite a ((a, oe3) :: (X.pn ++ pins))) S3 hg hm q hdbg
          · exact ld_blt (X := X.suite a ((a, oe3) :: (X.pn ++ pins))) S3 hg hm hv q hnn hdbg
        refine test (LM.here ?_)
        cases b with
        | true =>
          refine codeAny_handlers_suite_as ?_
          refine HandSPX.lands_againZ fl3 fun h4 fl4 up4 => ?_
          have J4 : Inv X pins σ' H' { s' with heap := h4 } := J.landed nb fl4.1 ((up.trans up3).trans up4) os ag
          obtain ⟨oe4, vs4, he4, hz4, hd4⟩ := fl4.there
          have S4 := J4.suite he4 hd4 na nL nF
          refine store_ok (X := X.suite a ((a, oe4) :: (X.pn ++ pins))) (v := .ref a) S4 hN hi hloc rfl (fun s5 S5 => ?_) (.inr hln)
          refine wpAny_mono ((hsu a oe4 cls d (X.pn ++ pins) hz4 ⟨_, hd4⟩).run [] s5 _ H' _ S5 (hyes rfl a na)) (fun f s6 hsp => ?_) (fun _ _ z => False.elim z)
          have end_ : ∀ {σ6 : L2.St} {H6 : Hp} {Q : Shared → Prop}, Inv (X.suite a ((a, oe4) :: (X.pn ++ pins))) [] σ6 H6 s6 → (∀ s7, Inv X pins (σ6.set i none) H6 s7 → Q s7) →
              wpAny (model X.prog X.w) X.A (do bindName X.env n .none; unbindBehindTheSuite X.env n pos') (fun _ s7 => Q s7) X.xe s6 := fun {σ6 H6 Q} S6 hq => gone_ok (S6.unsuite ok) hN hi hln hq
          cases f with
          | next =>
            obtain ⟨σ6, H6, S6, q6⟩ := hsp
            exact end_ S6 fun s7 J7 => ⟨_, _, J7, q6⟩
          | brk =>
            obtain ⟨σ6, H6, S6, q6⟩ := hsp
            exact end_ S6 fun s7 J7 => ⟨_, _, J7, q6⟩
          | cont =>
            obtain ⟨σ6, H6, S6, q6⟩ := hsp
            exact end_ S6 fun s7 J7 => ⟨_, _, J7, q6⟩
          | ret u =>
            obtain ⟨v6, σ6, H6, S6, r6, q6⟩ := hsp
            exact end_ S6 fun s7 J7 => ⟨_, _, _, J7, r6, q6⟩
        | false =>
          show wpAny _ X.A (handleBy (.ref a) X.env hds2) _ _ _
          exact ih (hno rfl)
    exact go hh w
  · cases f with
    | next =>
      obtain ⟨σ', H', J', q⟩ := hsp
      exact wpAny_execs_nil ⟨σ', H', J'.ofTry ok, q⟩
    | brk =>
      obtain ⟨σ', H', J', q⟩ := hsp
      exact ⟨σ', H', J'.ofTry ok, q⟩
    | cont =>
      obtain ⟨σ', H', J', q⟩ := hsp
      exact ⟨σ', H', J'.ofTry ok, q⟩
    | ret u =>
      obtain ⟨v, σ', H', J', r, q⟩ := hsp
      exact ⟨v, σ', H', J'.ofTry ok, r, q⟩
end
/-- the clauses of a try -/
inductive HsX (X : Cx) (cx : Str → Option Addr) (C : CallT) : List ExceptHandler → Hs → List (Value × Option Nat × (Addr → Value → Option Addr → TS)) → Prop
  | nil : HsX X cx C [] .nil []
  | cons {x : Str} {c : Value} {e : Expr} {te : E} {np rp pos' : Pos} {hds : List ExceptHandler} {hs : Hs} {l : List (Value × Option Nat × (Addr → Value → Option Addr → TS))} (hc : Names X x c) (hex : ∀ c' C', cx c' = some C' → PySem.W.exmOne X.K (.ref C') c = some (hit x c'))
      (he : ∀ (a : Addr) (pn : List (Addr × Obj)), PX (X.suite a pn) cx none WF C e te) (r : HsX X cx C hds hs l) :
      HsX X cx C (.ExceptHandler (some (.Name x np)) none [.Return (some e) rp] pos' :: hds) (.cons x none te hs) ((c, none, fun _ _ _ => tRet (tI X.K cx none WF (evE C te))) :: l)
  | consA {x n : Str} {i : Nat} {c : Value} {e : Expr} {te : E} {fl : List Str} {np rp pos' : Pos} {hds : List ExceptHandler} {hs : Hs} {l : List (Value × Option Nat × (Addr → Value → Option Addr → TS))} (hc : Names X x c) (hi : X.N[i]? = some n) (hln : X.env.kindOf n = some .local) (hfl : fl ≠ []) (hex : ∀ c' C', cx c' = some C' → PySem.W.exmOne X.K (.ref C') c = some (hit x c'))
      (he : ∀ (a : Addr) (oe : Obj) (cls : Value) (d : Option Addr) (pn : List (Addr × Obj)), Zc cls d oe → (∃ vs, oe.data = .fields vs) → (∃ c' C', cx c' = some C' ∧ hit x c' = true ∧ cls = .ref C') → d.isSome = true →
        PX (X.suite a ((a, oe) :: pn)) cx (some ⟨a, d.getD 0, i, X.N.length, fl⟩) WF C e te) (r : HsX X cx C hds hs l) :
      HsX X cx C (.ExceptHandler (some (.Name x np)) (some n) [.Return (some e) rp] pos' :: hds) (.cons x (some (i, X.N.length, fl)) te hs)
        ((c, some i, fun a cls d D σ H => (∃ c' C', cx c' = some C' ∧ hit x c' = true ∧ cls = .ref C') ∧ d.isSome = true ∧ tRet (tI X.K cx (some ⟨a, d.getD 0, i, X.N.length, fl⟩) WF (evE C te)) D σ H) :: l)
theorem HsX.hds {X : Cx} {cx : Str → Option Addr} {C : CallT} {hds : List ExceptHandler} {hs : Hs} {l : List (Value × Option Nat × (Addr → Value → Option Addr → TS))} (h : HsX X cx C hds hs l) : HdsA X hds l := by
  induction h with
  | nil => exact .nil
  | cons hc hex he r ih => exact .cons hc (fun a oe cls d pn _ _ => pss_one (ps_ret (he a _))) ih
  | consA hc hi hln hfl hex he r ih => exact .consA hc hi hln (fun a oe cls d pn hz hf => ⟨fun pins s σ H D I ⟨hh, hd, q⟩ => (pss_one (ps_ret (he a oe cls d pn hz hf hh hd))).run pins s σ H D I q⟩) ih
theorem HsX.run {X : Cx} {cx : Str → Option Addr} {C : CallT} {W : WX} {hds : List ExceptHandler} {hs : Hs} {l : List (Value × Option Nat × (Addr → Value → Option Addr → TS))} (h : HsX X cx C hds hs l) (D : Ends) {c : Str} {fs : List (Str × A)} {env : En} {st : Sto} {m : List Addr} {H : Hp} {σ : L2.St} {cls : Value} {d : Option Addr}
    (R : Rel X.K m H st) (ev : EV X.K σ H m env) (x : XR X.K cx m H c fs cls d) (q : SOut X.K cx W m H (evHs C hs c fs env st) D) : wManyA X.K W D l cls d σ H := by
  induction h with
  | nil =>
    rw [evHs] at q
    exact q cls d σ H m (Post.refl R) ev x
  | @cons x' c' e te np rp pos' hds hs l hc hex he r ih =>
    rw [evHs] at q
    obtain ⟨Cc, e1, rfl, e2⟩ := id x
    refine ⟨hit x' c, hex c Cc e1, fun hh a ha => ?_, fun hh => ?_⟩
    · rw [if_pos hh] at q
      refine ⟨m, env, st, ⟨R, ev.er⟩, ?_⟩
      cases hev : evE C te env st with
      | ok a st1 =>
        rw [hev] at q
        exact fun H' m' p v vv => q v H' m' p vv
      | exc _ _ _ =>
        rw [hev] at q
        exact q.elim
      | bad =>
        rw [hev] at q
        exact q.elim
    · rw [if_neg (by rw [hh]; decide)] at q
      exact ih q
  | @consA x' n i c' e te fl np rp pos' hds hs l hc hi hln hfl hex he r ih =>
    rw [evHs] at q
    obtain ⟨Cc, e1, rfl, e2⟩ := id x
    refine ⟨hit x' c, hex c Cc e1, fun hh a ha => ?_, fun hh => ?_⟩
    · rw [if_pos hh] at q
      split at q
      · rename_i hn
        obtain ⟨hn1, hn2⟩ := hn
        rcases e2 with ⟨ef, _⟩ | ⟨dd, ws, ed, eH, lk⟩
        · exact absurd (by rw [← hn2, ef]; rfl) hfl
        · subst ed
          refine ⟨⟨c, Cc, e1, hh, rfl⟩, rfl, m, env.set i none ++ fs.map fun p => some p.2, st, ⟨R, ?_, fun g eg => ?_, fun z => by cases z⟩, ?_⟩
          · intro j b hb
            by_cases hj : j < env.length
            · rw [List.getElem?_append_left (by rw [List.length_set]; exact hj)] at hb
              by_cases hji : i = j
              · subst hji
                rw [List.getElem?_set_self hj] at hb
                cases hb
              · rw [List.getElem?_set_ne hji] at hb
                obtain ⟨v, e3, vr⟩ := ev.get j b hb
                exact .inl ⟨v, by rw [List.getElem?_set_ne hji]; exact e3, vr, fun g eg => by cases eg; show j < X.N.length; rw [← hn1]; exact hj⟩
            · rw [List.getElem?_append_right (by rw [List.length_set]; omega), List.length_set, List.getElem?_map] at hb
              cases hf : fs[j - env.length]? with
              | none =>
                rw [hf] at hb
                cases hb
              | some p =>
                rw [hf] at hb
                cases hb
                refine .inr ⟨_, rfl, by show X.N.length ≤ j; omega, ws, ?_⟩
                obtain ⟨v, e3, vr⟩ := lk _ _ hf
                refine ⟨v, p.1, eH, ?_, e3, vr⟩
                show fl[j - X.N.length]? = _
                rw [← hn1, ← hn2, List.getElem?_map, hf]
                rfl
          · cases eg
            show (σ.set i (some (.ref a)))[i]? = _
            rw [List.getElem?_set_self]
            rw [← ev.len, hn1]
            exact (List.getElem?_eq_some_iff.mp hi).1
          · cases hev : evE C te (env.set i none ++ fs.map fun p => some p.2) st with
            | ok b st1 =>
              rw [hev] at q
              exact fun H' m' p v vv => q v H' m' p vv
            | exc _ _ _ =>
              rw [hev] at q
              exact q.elim
            | bad =>
              rw [hev] at q
              exact q.elim
      · exact q.elim
    · rw [if_neg (by rw [hh]; decide)] at q
      exact ih q
theorem sx_try {X : Cx} {cx : Str → Option Addr} {C : CallT} {W : WX} {body : List Stmt} {tb : Ss} {h₀ : ExceptHandler} {hds : List ExceptHandler} {hs : Hs} {l : List (Value × Option Nat × (Addr → Value → Option Addr → TS))} {pos : Pos} (hst : X.stack = X.env :: X.outer) (hf : X.env.frame = some X.env.locals) (hN : X.N.Nodup) (tk : Takes X W)
    (hb : ∀ (W : WX) (pn : List (Addr × Obj)) (xe : Value → Shared → Prop), Takes (X.tr pn xe) W → PassesOwn (model X.prog X.w) X.A X.env xe → PSsX (X.tr pn xe) cx W C body tb)
    (hh : HsX X cx C (h₀ :: hds) hs l) : PSX X cx W C (.Try body (h₀ :: hds) [] [] pos) (.tri tb hs) := by
  refine (ps_try_manyA (tb := fun W => tS X.K cx W (evSs C tb)) hst hf hN tk hb hh.hds).weak fun D σ H ⟨m, env, st, R, ev, h⟩ => ?_
  rw [evS] at h
  refine ⟨m, env, st, R, ev, ?_⟩
  cases hb : evSs C tb env st with
  | ex c fs env' st' =>
    rw [hb] at h
    exact fun cls d σ' H' m' p ev' x => hh.run D p.rel ev' x (SOut.shift (r := evHs C hs c fs env' st') h p)
  | nx a s => rw [hb] at h; exact h
  | rt a s => rw [hb] at h; exact h
  | bk a s => rw [hb] at h; exact h
  | ct a s => rw [hb] at h; exact h
  | bad => rw [hb] at h; exact h
end MP

/-! The fields of a caught error; a def by its body; the three ways of a call; all defs at once (own work). -/
namespace MP
open PySem PySem.Spec PyProof.Rows L2

/-- e.attr in an except suite -/
theorem px_given {X : Cx} {cx : Str → Option Addr} {C : CallT} {a Cc : Addr} {oe : Obj} {cls : Value} {d : Option Addr} {pn : List (Addr × Obj)} {i : Nat} (k : Nat) {nm attr x : Str} {fl : List Str} {p pos : Pos} (T : XfC X.K Cc) (hno : PySem.W.findIn X.K (.ref Cc) attr = some none)
    (hz : Zc cls d oe) (hf : ∃ vs, oe.data = .fields vs) (hcls : ∃ c' C', cx c' = some C' ∧ hit x c' = true ∧ cls = .ref C') (hd : d.isSome = true) (hx : cx x = some Cc) (hne : x ≠ "RoadError" := by decide) (hi : X.N[i]? = some nm := by rfl) (hv : Vis X.env.scope nm := by exact Or.inl rfl) (hk : fl[k]? = some attr := by rfl)
    (hdb : (nm == ("__debug__" : Str)) = false := by decide) (hcd : (nm == ("__classdict__" : Str)) = false := by decide) (hb : attributeBase (.Name nm p) attr X.env (eval (.Name nm p) X.env) = eval (.Name nm p) X.env := by rfl) :
    PX (X.suite a ((a, oe) :: pn)) cx (some ⟨a, d.getD 0, i, X.N.length, fl⟩) WF C (.Attribute (.Name nm p) attr pos) (.var (X.N.length + k)) := by
  obtain ⟨c', C', e1, e2, rfl⟩ := hcls
  have hc : c' = x := by
    unfold hit at e2
    rcases Bool.or_eq_true_iff.mp e2 with h | h
    · exact of_decide_eq_true h
    · exact absurd (of_decide_eq_true h) hne
  subst hc
  rw [hx] at e1
  cases e1
  refine (pe_xf (X := X) T hno hz hf (pe_var (X := X.suite a ((a, oe) :: pn)) (i := i) hi hv hdb hcd) hb).weak fun σ H Q ⟨m, env, st, ra, h⟩ => ?_
  rw [evE] at h
  split at h
  · rename_i b e
    refine ⟨.ref a, ra.er.2.1 _ rfl, rfl, rfl, ?_⟩
    rcases ra.er.1 _ b e with ⟨v, e1, r, hg⟩ | ⟨g, eg, hn, ws, v, f, e3, e4, e5, r⟩
    · have := hg _ rfl
      have this : X.N.length + k < X.N.length := this
      omega
    · cases eg
      have e4' : fl[X.N.length + k - X.N.length]? = some f := e4
      rw [Nat.add_sub_cancel_left, hk] at e4'
      cases e4'
      obtain ⟨dd, rfl⟩ := Option.isSome_iff_exists.mp hd
      exact ⟨dd, ws, v, rfl, e3, e5, h.now ra.rel v r⟩
  · exact h.elim

/-! ### defs -/
inductive Md where | gen | ro | win
structure FD where
  n : Nat
  ns : Nat
  md : Md
  body : Ss
def runB (C : CallT) (fd : FD) (as : List A) (st : Sto) : Rs A := match evSs C fd.body (as.map some ++ List.replicate (fd.ns - as.length) none) st with
  | .nx _ st' => .ok .non st'
  | .rt a st' => .ok a st'
  | .ex c fs _ st' => .exc c fs st'
  | _ => .bad
theorem ev_start {K : PySem.W.Frag} {m : List Addr} {H : Hp} {as : List A} {vs : List V} (N : List Str) (h : VRs K m H as vs) (hl : as.length ≤ N.length) : EV K (L2.start N vs) H m (as.map some ++ List.replicate (N.length - as.length) none) := by
  refine ⟨?_, fun i a e => ?_⟩
  · unfold L2.start
    rw [List.length_append, List.length_append, List.length_map, List.length_map, List.length_replicate, List.length_replicate, h.length]
  · unfold L2.start
    by_cases hi : i < as.length
    · rw [List.getElem?_append_left (by simpa using hi), List.getElem?_map] at e
      cases ha : as[i]? with
      | none =>
        rw [ha] at e
        cases e
      | some b =>
        rw [ha] at e
        cases e
        obtain ⟨v, e1, r⟩ := h.get ha
        exact ⟨v, by rw [List.getElem?_append_left (by simp; rw [← h.length]; exact hi), List.getElem?_map, e1]; rfl, r⟩
    · rw [List.getElem?_append_right (by simpa using hi), List.getElem?_replicate] at e
      split at e <;> cases e
/-- THE RULE: a def by its body -/
theorem body_ok {P : Program} {w : World} {K : PySem.W.Frag} {mg : Str → Option Value} {base : Heap} {cx : Str → Option Addr} {C : CallT} {x qual : Str} {s : Stmt} {f : Addr} {fdd : FuncData} {N ps : List Str} {k : Nat} (fd : FD) (F : Fun K x qual s f fdd) (S : FnScope N ps (defScope s)) (hn : fd.ns = N.length) (hps : ps.length ≤ N.length)
    (hb : ∀ (cdv : Value) (A : Around) (outer : List Env) (s0 : Shared) (H : Hp) (E : XK), Room k (A.deeper (envOfC qual (defScope s) s0.heap.objs.size f cdv)) →
      PSsX (cxOf (L2.CX P w) P w K mg base N qual (defScope s) f cdv A outer s0 H E) cx (fun cls d _ H => E cls d H) C (defBody s) fd.body) : FnOk P w K mg base (L2.CX P w) (k + 1) f fdd ps (spI K cx ps.length (runB C fd)) := by
  refine F.okX S (fun vs H Q E h => h.1) (fun cdv A outer s0 H vs Q E hr h => ?_)
  obtain ⟨hl, m, as, st, R, va, h⟩ := h
  refine ⟨_, hb cdv A outer s0 H E hr, ?_⟩
  have hal : as.length ≤ N.length := by
    rw [va.length, hl]
    exact hps
  refine ⟨m, _, st, R, ev_start N va hal, ?_⟩
  unfold runB at h
  rw [hn] at h
  unfold Out at h
  unfold SOut
  revert h
  cases evSs C fd.body (as.map some ++ List.replicate (N.length - as.length) none) st with
  | nx e s => exact fun h σ' H' m' p _ => h H' m' p .non .non
  | rt a s => exact fun h v H' m' p vv => h H' m' p v vv
  | ex c fs e s => exact fun h cls d σ' H' m' p _ x => h cls d H' m' p x
  | bk e s => exact fun h => h.elim
  | ct e s => exact fun h => h.elim
  | bad => exact fun h => h.elim

/-! ### without labels -/
mutual
def pureA : A → Bool
  | .non => true
  | .bl _ => true
  | .int _ => true
  | .str _ => true
  | .tup xs => pureL xs
  | .rol xs => pureL xs
  | .ref _ => false
def pureL : List A → Bool
  | [] => true
  | x :: xs => pureA x && pureL xs
end
/-! all labels below n -/
mutual
def lowA (n : Nat) : A → Bool
  | .non => true
  | .bl _ => true
  | .int _ => true
  | .str _ => true
  | .tup xs => lowL n xs
  | .rol xs => lowL n xs
  | .ref l => decide (l < n)
def lowL (n : Nat) : List A → Bool
  | [] => true
  | x :: xs => lowA n x && lowL n xs
end
section
variable {K : PySem.W.Frag} {m m' : List Addr} {H : Hp}
mutual
theorem VR.pure : ∀ {x : A} {v : V}, VR K m H x v → pureA x = true → VR K m' H x v
  | _, _, .non, _ => .non
  | _, _, .bl b, _ => .bl b
  | _, _, .int i, _ => .int i
  | _, _, .str x, _ => .str x
  | _, _, .tup h hs, p => .tup h (VRs.pure hs (by rw [pureA] at p; exact p))
  | _, _, .rol h hs, p => .rol h (VRs.pure hs (by rw [pureA] at p; exact p))
  | _, _, .ref h, p => by rw [pureA] at p; cases p
theorem VRs.pure : ∀ {xs : List A} {vs : List V}, VRs K m H xs vs → pureL xs = true → VRs K m' H xs vs
  | _, _, .nil, _ => .nil
  | _, _, .cons h hs, p => by
    rw [pureL, Bool.and_eq_true] at p
    exact .cons (VR.pure h p.1) (VRs.pure hs p.2)
end
mutual
theorem VR.low : ∀ {x : A} {v : V}, VR K (m ++ m') H x v → lowA m.length x = true → VR K m H x v
  | _, _, .non, _ => .non
  | _, _, .bl b, _ => .bl b
  | _, _, .int i, _ => .int i
  | _, _, .str x, _ => .str x
  | _, _, .tup h hs, p => .tup h (VRs.low hs (by rw [lowA] at p; exact p))
  | _, _, .rol h hs, p => .rol h (VRs.low hs (by rw [lowA] at p; exact p))
  | _, _, .ref h, p => by
    rw [lowA] at p
    rw [List.getElem?_append_left (of_decide_eq_true p)] at h
    exact .ref h
theorem VRs.low : ∀ {xs : List A} {vs : List V}, VRs K (m ++ m') H xs vs → lowL m.length xs = true → VRs K m H xs vs
  | _, _, .nil, _ => .nil
  | _, _, .cons h hs, p => by
    rw [lowL, Bool.and_eq_true] at p
    exact .cons (VR.low h p.1) (VRs.low hs p.2)
end
mutual
theorem VR.isLow : ∀ {x : A} {v : V}, VR K m H x v → lowA m.length x = true
  | _, _, .non => rfl
  | _, _, .bl b => rfl
  | _, _, .int i => rfl
  | _, _, .str x => rfl
  | _, _, .tup h hs => by rw [lowA]; exact VRs.isLow hs
  | _, _, .rol h hs => by rw [lowA]; exact VRs.isLow hs
  | _, _, .ref h => by
    rw [lowA]
    exact decide_eq_true (List.getElem?_eq_some_iff.mp h).1
theorem VRs.isLow : ∀ {xs : List A} {vs : List V}, VRs K m H xs vs → lowL m.length xs = true
  | _, _, .nil => rfl
  | _, _, .cons h hs => by
    rw [lowL, VR.isLow h, VRs.isLow hs]
    rfl
end
end
/-! ### equality of objects, for a check -/
mutual
def sameA : A → A → Bool
  | .non, .non => true
  | .bl a, .bl b => a == b
  | .int a, .int b => decide (a = b)
  | .str a, .str b => decide (a = b)
  | .tup a, .tup b => sameL a b
  | .rol a, .rol b => sameL a b
  | .ref a, .ref b => decide (a = b)
  | _, _ => false
def sameL : List A → List A → Bool
  | [], [] => true
  | x :: xs, y :: ys => sameA x y && sameL xs ys
  | _, _ => false
end
mutual
theorem sameA.refl : ∀ x : A, sameA x x = true
  | .non => by simp [sameA]
  | .bl a => by simp [sameA]
  | .int a => by simp [sameA]
  | .str a => by simp [sameA]
  | .tup a => by rw [sameA]; exact sameL.refl a
  | .rol a => by rw [sameA]; exact sameL.refl a
  | .ref a => by simp [sameA]
theorem sameL.refl : ∀ x : List A, sameL x x = true
  | [] => by simp [sameL]
  | x :: xs => by rw [sameL, sameA.refl x, sameL.refl xs]; rfl
end
mutual
theorem sameA.eq : ∀ x y : A, sameA x y = true → x = y
  | .non, .non, _ => rfl
  | .bl a, .bl b, h => by simp [sameA] at h; rw [h]
  | .int a, .int b, h => by simp [sameA] at h; rw [h]
  | .str a, .str b, h => by simp [sameA] at h; rw [h]
  | .tup a, .tup b, h => by rw [sameA] at h; rw [sameL.eq a b h]
  | .rol a, .rol b, h => by rw [sameA] at h; rw [sameL.eq a b h]
  | .ref a, .ref b, h => by simp [sameA] at h; rw [h]
  | .non, .bl _, h | .non, .int _, h | .non, .str _, h | .non, .tup _, h | .non, .rol _, h | .non, .ref _, h => by simp [sameA] at h
  | .bl _, .non, h | .bl _, .int _, h | .bl _, .str _, h | .bl _, .tup _, h | .bl _, .rol _, h | .bl _, .ref _, h => by simp [sameA] at h
  | .int _, .non, h | .int _, .bl _, h | .int _, .str _, h | .int _, .tup _, h | .int _, .rol _, h | .int _, .ref _, h => by simp [sameA] at h
  | .str _, .non, h | .str _, .bl _, h | .str _, .int _, h | .str _, .tup _, h | .str _, .rol _, h | .str _, .ref _, h => by simp [sameA] at h
  | .tup _, .non, h | .tup _, .bl _, h | .tup _, .int _, h | .tup _, .str _, h | .tup _, .rol _, h | .tup _, .ref _, h => by simp [sameA] at h
  | .rol _, .non, h | .rol _, .bl _, h | .rol _, .int _, h | .rol _, .str _, h | .rol _, .tup _, h | .rol _, .ref _, h => by simp [sameA] at h
  | .ref _, .non, h | .ref _, .bl _, h | .ref _, .int _, h | .ref _, .str _, h | .ref _, .tup _, h | .ref _, .rol _, h => by simp [sameA] at h
theorem sameL.eq : ∀ x y : List A, sameL x y = true → x = y
  | [], [], _ => rfl
  | x :: xs, y :: ys, h => by
    rw [sameL, Bool.and_eq_true] at h
    rw [sameA.eq x y h.1, sameL.eq xs ys h.2]
  | [], _ :: _, h => by simp [sameL] at h
  | _ :: _, [], h => by simp [sameL] at h
end
def sameO : Ob → Ob → Bool
  | .lst a, .lst b => sameL a b
  | .dct a, .dct b => decide (a.map (·.1) = b.map (·.1)) && sameL (a.map (·.2)) (b.map (·.2))
  | .fdc a, .fdc b => decide (a.map (·.1) = b.map (·.1)) && sameL (a.map (·.2)) (b.map (·.2))
  | _, _ => false
theorem sameO.refl (x : Ob) : sameO x x = true := by
  cases x with
  | lst a => exact sameL.refl a
  | dct a => simp [sameO, sameL.refl]
  | fdc a => simp [sameO, sameL.refl]
theorem pairs_eq {κ : Type} : ∀ (a b : List (κ × A)), a.map (·.1) = b.map (·.1) → a.map (·.2) = b.map (·.2) → a = b
  | [], [], _, _ => rfl
  | x :: xs, y :: ys, h1, h2 => by
    simp only [List.map_cons, List.cons.injEq] at h1 h2
    rw [pairs_eq xs ys h1.2 h2.2]
    obtain ⟨a, b⟩ := x
    obtain ⟨c, d⟩ := y
    simp only at h1 h2
    rw [h1.1, h2.1]
  | [], _ :: _, h, _ => by simp at h
  | _ :: _, [], h, _ => by simp at h
theorem sameO.eq {x y : Ob} (h : sameO x y = true) : x = y := by
  cases x with
  | lst a =>
    cases y with
    | lst b => rw [sameL.eq a b h]
    | dct b => cases h
    | fdc b => cases h
  | dct a =>
    cases y with
    | lst b => cases h
    | fdc b => cases h
    | dct b =>
      unfold sameO at h
      rw [Bool.and_eq_true] at h
      rw [pairs_eq a b (of_decide_eq_true h.1) (sameL.eq _ _ h.2)]
  | fdc a =>
    cases y with
    | lst b => cases h
    | dct b => cases h
    | fdc b =>
      unfold sameO at h
      rw [Bool.and_eq_true] at h
      rw [pairs_eq a b (of_decide_eq_true h.1) (sameL.eq _ _ h.2)]
/-- st is the beginning of st' -/
def begins : Sto → Sto → Bool
  | [], _ => true
  | x :: xs, y :: ys => sameO x y && begins xs ys
  | _ :: _, [] => false
theorem begins.app (st g : Sto) : begins st (st ++ g) = true := by
  induction st with
  | nil => rfl
  | cons x xs ih =>
    show (sameO x x && begins xs (xs ++ g)) = true
    rw [sameO.refl, ih]
    rfl
theorem begins.eq : ∀ {st st' : Sto}, begins st st' = true → ∃ g, st' = st ++ g
  | [], st', _ => ⟨st', rfl⟩
  | x :: xs, y :: ys, h => by
    unfold begins at h
    rw [Bool.and_eq_true] at h
    obtain ⟨g, e⟩ := begins.eq h.2
    exact ⟨g, by rw [sameO.eq h.1, e]; rfl⟩
  | _ :: _, [], h => by cases h
/-- a call that only reads: what it made and is not handed out is let go -/
def roRun (f : List A → Sto → Rs A) (as : List A) (st : Sto) : Rs A := match f as st with
  | .ok a st' => if begins st st' && lowA st.length a then .ok a st else .bad
  | .exc c fs st' => if begins st st' && lowL st.length (fs.map (·.2)) then .exc c fs st else .bad
  | .bad => .bad
theorem lowL.at {n : Nat} : ∀ {xs : List A} {k : Nat} {x : A}, lowL n xs = true → xs[k]? = some x → lowA n x = true
  | [], _, _, _, h => by simp at h
  | y :: ys, 0, x, h, e => by
    rw [lowL, Bool.and_eq_true] at h
    cases e
    exact h.1
  | y :: ys, k + 1, x, h, e => by
    rw [lowL, Bool.and_eq_true] at h
    exact lowL.at (k := k) h.2 (by simpa using e)
theorem Post.cut {K : PySem.W.Frag} {m m' : List Addr} {H H' : Hp} {st g : Sto} (R : Rel K m H st) (p : Post K m H m' H' (st ++ g)) : Post K m H m H' st := by
  obtain ⟨k, ek⟩ := p.ex
  refine ⟨⟨[], by simp⟩, p.fr, p.fz, fun a h n => absurd h n, R.inj, R.len, fun l a o h1 h2 => ?_⟩
  have h3 := p.rel.obj l a o (p.get l a h1) (by rw [List.getElem?_append_left (List.getElem?_eq_some_iff.mp h2).1]; exact h2)
  have h4 := R.obj l a o h1 h2
  subst ek
  cases o with
  | lst xs =>
    obtain ⟨vs, e, r⟩ := h3
    obtain ⟨vs', e', r'⟩ := h4
    exact ⟨vs, e, r.low r'.isLow⟩
  | dct kvs =>
    obtain ⟨ws, e, ks, r⟩ := h3
    obtain ⟨ws', e', ks', r'⟩ := h4
    exact ⟨ws, e, ks, r.low r'.isLow⟩
  | fdc kvs =>
    obtain ⟨od, ws, e, ks, r⟩ := h3
    obtain ⟨od', ws', e', ks', r'⟩ := h4
    exact ⟨od, ws, e, ks, r.low r'.isLow⟩
theorem ro_imp {K : PySem.W.Frag} {cx : Str → Option Addr} {n : Nat} {f : List A → Sto → Rs A} : ∀ vs H Q E, spI K cx n (roRun f) vs H Q E → spI K cx n f vs H Q E := fun vs H Q E ⟨hl, m, as, st, R, va, h⟩ => by
  refine ⟨hl, m, as, st, R, va, ?_⟩
  unfold roRun at h
  cases hf : f as st with
  | bad =>
    rw [hf] at h
    exact h
  | ok a st' =>
    rw [hf] at h
    dsimp only at h
    split at h
    · rename_i hc
      rw [Bool.and_eq_true] at hc
      obtain ⟨g, rfl⟩ := begins.eq hc.1
      intro H' m' p v vv
      obtain ⟨k, ek⟩ := p.ex
      refine h H' m (p.cut R) v ?_
      subst ek
      exact vv.low (by rw [R.len]; exact hc.2)
    · exact h.elim
  | exc c fs st' =>
    rw [hf] at h
    dsimp only at h
    split at h
    · rename_i hc
      rw [Bool.and_eq_true] at hc
      obtain ⟨g, rfl⟩ := begins.eq hc.1
      intro cls d H' m' p x
      obtain ⟨k, ek⟩ := p.ex
      obtain ⟨Cc, e1, e2, e3⟩ := x
      refine h cls d H' m (p.cut R) ⟨Cc, e1, e2, ?_⟩
      rcases e3 with e3 | ⟨dd, ws, e4, e5, e6⟩
      · exact .inl e3
      · refine .inr ⟨dd, ws, e4, e5, fun k q hq => ?_⟩
        obtain ⟨v, e7, vr⟩ := e6 k q hq
        refine ⟨v, e7, ?_⟩
        subst ek
        refine vr.low ?_
        rw [R.len]
        exact lowL.at hc.2 (k := k) (by rw [List.getElem?_map, hq]; rfl)
    · exact h.elim
end MP

/-! A call that sees nothing but its arguments' own objects; all defs at once (own work). -/
namespace MP
open PySem PySem.Spec PyProof.Rows L2

def findIx (l : Nat) : List Nat → Option Nat
  | [] => none
  | x :: xs => if x = l then some 0 else (findIx l xs).map (· + 1)
theorem findIx_get {l : Nat} : ∀ {ls : List Nat} {j : Nat}, findIx l ls = some j → ls[j]? = some l
  | [], _, h => by cases h
  | x :: xs, j, h => by
    unfold findIx at h
    split at h
    · rename_i e
      cases h
      rw [e]
      rfl
    · cases e : findIx l xs with
      | none => rw [e] at h; cases h
      | some k =>
        rw [e] at h
        cases h
        show (x :: xs)[k + 1]? = some l
        rw [List.getElem?_cons_succ]
        exact findIx_get e
theorem findIx_none {l : Nat} : ∀ {ls : List Nat}, findIx l ls = none → l ∉ ls
  | [], _ => by simp
  | x :: xs, h => by
    unfold findIx at h
    split at h
    · cases h
    · rename_i e
      cases e2 : findIx l xs with
      | none =>
        intro z
        rcases List.mem_cons.mp z with z | z
        · exact e z.symm
        · exact findIx_none e2 z
      | some k => rw [e2] at h; cases h
def winArg (ls : List Nat) (a : A) : Option (A × List Nat) := match a with
  | .ref l => match findIx l ls with
    | some j => some (.ref j, ls)
    | none => some (.ref ls.length, ls ++ [l])
  | a => if pureA a then some (a, ls) else none
def winArgs : List Nat → List A → Option (List A × List Nat)
  | ls, [] => some ([], ls)
  | ls, a :: as => match winArg ls a with
    | some (a', ls') => match winArgs ls' as with
      | some (as', ls'') => some (a' :: as', ls'')
      | none => none
    | none => none
def flatO : Ob → Bool
  | .lst xs => pureL xs
  | .dct kvs => pureL (kvs.map (·.2))
  | .fdc kvs => pureL (kvs.map (·.2))
def winSto : List Nat → Sto → Option Sto
  | [], _ => some []
  | l :: ls, st => match st[l]? with
    | some o => if flatO o then (match winSto ls st with
      | some r => some (o :: r)
      | none => none) else none
    | none => none
def wb : List Nat → Sto → Sto → Option Sto
  | [], _, st => some st
  | l :: ls, o :: os, st => if flatO o then wb ls os (st.set l o) else none
  | _ :: _, [], _ => none
def outA (ls : List Nat) (st1 : Sto) (a : A) (st' : Sto) : Rs A := match a with
  | .ref j => match ls[j]? with
    | some l => .ok (.ref l) st'
    | none => match st1[j]? with
      | some o => if flatO o then .ok (.ref st'.length) (st' ++ [o]) else .bad
      | none => .bad
  | a => if pureA a then .ok a st' else .bad
def outV (ls : List Nat) (a : A) : Option A := match a with
  | .ref j => match ls[j]? with
    | some l => some (.ref l)
    | none => none
  | a => if pureA a then some a else none
def outFs (ls : List Nat) : List (Str × A) → Option (List (Str × A))
  | [] => some []
  | (f, a) :: r => match outV ls a, outFs ls r with
    | some b, some q => some ((f, b) :: q)
    | _, _ => none
def winRun (f : List A → Sto → Rs A) (as : List A) (st : Sto) : Rs A := match winArgs [] as with
  | none => .bad
  | some (as', ls) => match winSto ls st with
    | none => .bad
    | some st0 => match f as' st0 with
      | .bad => .bad
      | .ok a st1 => match wb ls st1 st with
        | none => .bad
        | some st' => outA ls st1 a st'
      | .exc c fs st1 => match wb ls st1 st with
        | none => .bad
        | some st' => match outFs ls fs with
          | some fs' => .exc c fs' st'
          | none => .bad
def mOf (m : List Addr) (ls : List Nat) : List Addr := ls.map fun l => m.getD l 0
section
variable {K : PySem.W.Frag} {m : List Addr} {H : Hp} {st : Sto}
theorem mOf_get {ls : List Nat} {j l : Nat} (h : ls[j]? = some l) (hl : l < m.length) : (mOf m ls)[j]? = some m[l] := by
  unfold mOf
  rw [List.getElem?_map, h]
  show some (m.getD l 0) = _
  rw [List.getD_eq_getElem?_getD, List.getElem?_eq_getElem hl]
  rfl
theorem winArg_ok {ls ls' : List Nat} {a a' : A} {v : V} (h : winArg ls a = some (a', ls')) (hv : VR K m H a v) (hn : ls.Nodup) (hb : ∀ l ∈ ls, l < m.length) : (∃ k, ls' = ls ++ k) ∧ ls'.Nodup ∧ (∀ l ∈ ls', l < m.length) ∧ VR K (mOf m ls') H a' v := by
  have pu : ∀ a, (if pureA a then some (a, ls) else none) = some (a', ls') → VR K m H a v → (∃ k, ls' = ls ++ k) ∧ ls'.Nodup ∧ (∀ l ∈ ls', l < m.length) ∧ VR K (mOf m ls') H a' v := fun a h hv => by
    split at h
    · rename_i hp
      cases h
      exact ⟨⟨[], by simp⟩, hn, hb, hv.pure hp⟩
    · cases h
  cases a with
  | ref l =>
    cases hv with
    | @ref l p hl =>
      have hlt : l < m.length := (List.getElem?_eq_some_iff.mp hl).1
      have hml : m[l] = p := by
        rw [List.getElem?_eq_getElem hlt] at hl
        exact Option.some.inj hl
      unfold winArg at h
      dsimp only at h
      split at h
      · rename_i j e
        cases h
        exact ⟨⟨[], by simp⟩, hn, hb, .ref (by rw [mOf_get (findIx_get e) hlt, hml])⟩
      · rename_i e
        cases h
        refine ⟨⟨[l], rfl⟩, ?_, fun x hx => ?_, .ref ?_⟩
        · rw [List.nodup_append]
          refine ⟨hn, by simp, fun a ha b hb' => ?_⟩
          have : b = l := by simpa using hb'
          rw [this]
          intro z
          exact findIx_none e (z ▸ ha)
        · rcases List.mem_append.mp hx with z | z
          · exact hb x z
          · have : x = l := by simpa using z
            rw [this]
            exact hlt
        · rw [mOf_get (l := l) (by simp) hlt, hml]
  | non => exact pu .non h hv
  | bl b => exact pu (.bl b) h hv
  | int b => exact pu (.int b) h hv
  | str b => exact pu (.str b) h hv
  | tup b => exact pu (.tup b) h hv
  | rol b => exact pu (.rol b) h hv
theorem winArgs_ok : ∀ {as as' : List A} {ls ls' : List Nat} {vs : List V}, winArgs ls as = some (as', ls') → VRs K m H as vs → ls.Nodup → (∀ l ∈ ls, l < m.length) → (∃ k, ls' = ls ++ k) ∧ ls'.Nodup ∧ (∀ l ∈ ls', l < m.length) ∧ VRs K (mOf m ls') H as' vs
  | [], as', ls, ls', vs, h, hv, hn, hb => by
    unfold winArgs at h
    cases h
    cases hv
    exact ⟨⟨[], by simp⟩, hn, hb, .nil⟩
  | a :: as, as', ls, ls', vs, h, hv, hn, hb => by
    unfold winArgs at h
    cases hv with
    | cons va vr =>
      split at h
      · rename_i a1 ls1 e
        split at h
        · rename_i as2 ls2 e2
          cases h
          obtain ⟨⟨k, ek⟩, n1, b1, v1⟩ := winArg_ok e va hn hb
          obtain ⟨⟨k2, ek2⟩, n2, b2, v2⟩ := winArgs_ok e2 vr n1 b1
          refine ⟨⟨k ++ k2, by rw [ek2, ek, List.append_assoc]⟩, n2, b2, .cons (VR.mono Stb.refl (fun l a h => ?_) v1) v2⟩
          rw [ek2]
          unfold mOf at h ⊢
          rw [List.map_append, List.getElem?_append_left (List.getElem?_eq_some_iff.mp h).1]
          exact h
        · cases h
      · cases h
theorem winSto_ok : ∀ {ls : List Nat} {st0 : Sto}, winSto ls st = some st0 → st0.length = ls.length ∧ ∀ (j : Nat) (o : Ob), st0[j]? = some o → ∃ l : Nat, ls[j]? = some l ∧ st[l]? = some o ∧ flatO o = true
  | [], st0, h => by
    unfold winSto at h
    cases h
    exact ⟨rfl, fun j o e => by simp at e⟩
  | l :: ls, st0, h => by
    unfold winSto at h
    split at h
    · rename_i o e
      split at h
      · rename_i hf
        split at h
        · rename_i r e2
          cases h
          obtain ⟨l1, g⟩ := winSto_ok e2
          refine ⟨by simp [l1], fun j o' e3 => ?_⟩
          cases j with
          | zero =>
            cases e3
            exact ⟨l, rfl, e, hf⟩
          | succ j => exact g j o' (by simpa using e3)
        · cases h
      · cases h
    · cases h
theorem wb_ok : ∀ {ls : List Nat} {os st st' : Sto}, wb ls os st = some st' → ls.Nodup → st'.length = st.length ∧ (∀ l : Nat, l ∉ ls → st'[l]? = st[l]?) ∧ ∀ j l : Nat, ls[j]? = some l → l < st.length → ∃ o, os[j]? = some o ∧ flatO o = true ∧ st'[l]? = some o
  | [], os, st, st', h, _ => by
    unfold wb at h
    cases h
    exact ⟨rfl, fun _ _ => rfl, fun j l e => by simp at e⟩
  | l :: ls, [], st, st', h, _ => by
    unfold wb at h
    cases h
  | l :: ls, o :: os, st, st', h, hn => by
    unfold wb at h
    split at h
    · rename_i hf
      rw [List.nodup_cons] at hn
      obtain ⟨h1, h2, h3⟩ := wb_ok h hn.2
      refine ⟨by rw [h1, List.length_set], fun x hx => ?_, fun j x hj hl => ?_⟩
      · rw [h2 x fun z => hx (List.mem_cons_of_mem _ z), List.getElem?_set_ne]
        intro z
        exact hx (by rw [← z]; exact List.mem_cons_self)
      · cases j with
        | zero =>
          cases hj
          exact ⟨o, rfl, hf, by rw [h2 _ hn.1, List.getElem?_set_self hl]⟩
        | succ j =>
          obtain ⟨o', e1, e2, e3⟩ := h3 j x (by simpa using hj) (by rw [List.length_set]; exact hl)
          exact ⟨o', by simpa using e1, e2, e3⟩
    · cases h
theorem OR.pure {m' : List Addr} {a : Addr} {o : Ob} (h : OR K m H a o) (hf : flatO o = true) : OR K m' H a o := by
  cases o with
  | lst xs =>
    obtain ⟨vs, e, r⟩ := h
    exact ⟨vs, e, r.pure hf⟩
  | dct kvs =>
    obtain ⟨ws, e, ks, r⟩ := h
    exact ⟨ws, e, ks, r.pure hf⟩
  | fdc kvs =>
    obtain ⟨od, ws, e, ks, r⟩ := h
    exact ⟨od, ws, e, ks, r.pure hf⟩
theorem Rel.win {ls : List Nat} {st0 : Sto} (R : Rel K m H st) (hn : ls.Nodup) (hb : ∀ l ∈ ls, l < m.length) (h : winSto ls st = some st0) : Rel K (mOf m ls) H st0 := by
  obtain ⟨hl, hg⟩ := winSto_ok h
  refine ⟨fun i j a h1 h2 => ?_, by unfold mOf; rw [List.length_map, hl], fun j a o h1 h2 => ?_⟩
  · have hi : i < ls.length := by
      have := (List.getElem?_eq_some_iff.mp h1).1
      unfold mOf at this
      rwa [List.length_map] at this
    have hj : j < ls.length := by
      have := (List.getElem?_eq_some_iff.mp h2).1
      unfold mOf at this
      rwa [List.length_map] at this
    have bi := hb ls[i] (List.getElem_mem hi)
    have bj := hb ls[j] (List.getElem_mem hj)
    rw [mOf_get (List.getElem?_eq_getElem hi) bi] at h1
    rw [mOf_get (List.getElem?_eq_getElem hj) bj] at h2
    have e := R.inj ls[i] ls[j] a (by rw [List.getElem?_eq_getElem bi]; exact h1) (by rw [List.getElem?_eq_getElem bj]; exact h2)
    exact (List.getElem_inj hn).mp e
  · obtain ⟨l, e1, e2, e3⟩ := hg j o h2
    have bl := hb l (List.mem_of_getElem? e1)
    rw [mOf_get e1 bl] at h1
    exact (R.obj l a o (by rw [List.getElem?_eq_getElem bl]; exact h1) e2).pure e3
theorem mOf_sub {ls : List Nat} (hb : ∀ l ∈ ls, l < m.length) {a : Addr} (h : a ∈ mOf m ls) : a ∈ m ∧ ∃ l ∈ ls, m[l]? = some a := by
  unfold mOf at h
  obtain ⟨l, hl, e⟩ := List.mem_map.mp h
  have b := hb l hl
  rw [List.getD_eq_getElem?_getD, List.getElem?_eq_getElem b] at e
  have e' : m[l] = a := e
  exact ⟨by rw [← e']; exact List.getElem_mem b, l, hl, by rw [List.getElem?_eq_getElem b, e']⟩
theorem Post.win {ls : List Nat} {st0 st1 st' : Sto} {m1 : List Addr} {H' : Hp} (R : Rel K m H st) (hn : ls.Nodup) (hb : ∀ l ∈ ls, l < m.length) (h0 : winSto ls st = some st0) (p : Post K (mOf m ls) H m1 H' st1) (h1 : wb ls st1 st = some st') : Post K m H m H' st' := by
  obtain ⟨w1, w2, w3⟩ := wb_ok h1 hn
  have R0 := R.win hn hb h0
  have fr : ∀ a o, H a = some o → a ∉ m → H' a = some o := fun a o e n => p.fr a o e fun z => n (mOf_sub hb z).1
  refine ⟨⟨[], by simp⟩, fr, p.fz, fun a h n => absurd h n, R.inj, by rw [w1]; exact R.len, fun l a o e1 e2 => ?_⟩
  have hlm : l < m.length := (List.getElem?_eq_some_iff.mp e1).1
  by_cases hl : l ∈ ls
  · obtain ⟨j, hj⟩ := List.mem_iff_getElem?.mp hl
    obtain ⟨o', o1, o2, o3⟩ := w3 j l hj (by rw [← R.len]; exact hlm)
    rw [o3] at e2
    cases e2
    have g := mOf_get (m := m) hj hlm
    rw [← List.getElem?_eq_getElem hlm, e1] at g
    exact (p.rel.obj j a o (p.get j a g) o1).pure o2
  · rw [w2 l hl] at e2
    refine (R.obj l a o e1 e2).mono (p.stb R0) (fun _ _ h => h) ?_
    obtain ⟨u, hu, _⟩ := R.live (List.mem_of_getElem? e1)
    rw [hu]
    refine p.fr a u hu fun z => ?_
    obtain ⟨_, l', hl', e3⟩ := mOf_sub hb z
    exact hl (by rw [R.inj l l' a e1 e3]; exact hl')
end
theorem win_imp {K : PySem.W.Frag} {cx : Str → Option Addr} {n : Nat} {f : List A → Sto → Rs A} : ∀ vs H Q E, spI K cx n (winRun f) vs H Q E → spI K cx n f vs H Q E := fun vs H Q E ⟨hl, m, as, st, R, va, h⟩ => by
  unfold winRun at h
  split at h
  · exact h.elim
  rename_i as' ls ea
  split at h
  · exact h.elim
  rename_i st0 es
  obtain ⟨_, hn, hb, va'⟩ := winArgs_ok ea va (by simp) (by simp)
  have R0 := R.win hn hb es
  refine ⟨hl, mOf m ls, as', st0, R0, va', ?_⟩
  have back : ∀ {m1 : List Addr} {H' : Hp} {st1 : Sto} {j l : Nat} {a : Addr}, Post K (mOf m ls) H m1 H' st1 → ls[j]? = some l → m1[j]? = some a → m[l]? = some a := fun {m1 H' st1 j l a} p h1 h2 => by
    have b := hb l (List.mem_of_getElem? h1)
    have g := p.get j _ (mOf_get h1 b)
    rw [h2] at g
    rw [List.getElem?_eq_getElem b]
    exact g.symm
  cases hf : f as' st0 with
  | bad =>
    rw [hf] at h
    exact h
  | ok a st1 =>
    rw [hf] at h
    dsimp only at h
    split at h
    · exact h.elim
    rename_i st' ew
    intro H' m1 p v vv
    have P := Post.win R hn hb es p ew
    have pu : ∀ a, VR K m1 H' a v → Out K cx (fun cls d _ H' => E cls d H') [] m H (if pureA a then Rs.ok a st' else .bad) (VQ K Q) → Q v H' := fun a vv h => by
      split at h
      · rename_i hp
        exact h H' m P v (vv.pure hp)
      · exact h.elim
    cases a with
    | ref j =>
      cases vv with
      | @ref j b hj =>
        unfold outA at h
        dsimp only at h
        split at h
        · rename_i l hl
          exact h H' m P _ (.ref (back p hl hj))
        · rename_i hl
          split at h
          · rename_i o ho
            split at h
            · rename_i hfl
              have hjl : ls.length ≤ j := List.getElem?_eq_none_iff.mp hl
              have nb : b ∉ mOf m ls := fun z => by
                obtain ⟨i, hi⟩ := List.mem_iff_getElem?.mp z
                have hi' := p.get i b hi
                have := p.rel.inj i j b hi' hj
                have hlt := (List.getElem?_eq_some_iff.mp hi).1
                unfold mOf at hlt
                rw [List.length_map] at hlt
                omega
              have hb0 := p.nw b (List.mem_of_getElem? hj) nb
              have nm : b ∉ m := fun z => by
                obtain ⟨o, e, _⟩ := R.live z
                rw [hb0] at e
                cases e
              obtain ⟨PA, VA⟩ := P.adoptO hb0 nm ((p.rel.obj j b o hj ho).pure hfl)
              exact h H' _ PA _ VA
            · exact h.elim
          · exact h.elim
    | non => exact pu _ vv h
    | bl _ => exact pu _ vv h
    | int _ => exact pu _ vv h
    | str _ => exact pu _ vv h
    | tup _ => exact pu _ vv h
    | rol _ => exact pu _ vv h
  | exc c fs st1 =>
    rw [hf] at h
    dsimp only at h
    split at h
    · exact h.elim
    rename_i st' ew
    split at h
    · rename_i fs' ef
      intro cls d H' m1 p x
      have P := Post.win R hn hb es p ew
      obtain ⟨Cc, e1, e2, e3⟩ := x
      refine h cls d H' m P ⟨Cc, e1, e2, ?_⟩
      have rel : ∀ {fs fs' : List (Str × A)}, outFs ls fs = some fs' → (fs = [] → fs' = []) ∧ ∀ (k : Nat) (q : Str × A), fs'[k]? = some q → ∃ r, fs[k]? = some r ∧ r.1 = q.1 ∧ outV ls r.2 = some q.2 := by
        intro fs
        induction fs with
        | nil =>
          intro fs' h
          unfold outFs at h
          cases h
          exact ⟨fun _ => rfl, (fun k q e => by simp at e)⟩
        | cons r fs ih =>
          intro fs' h
          obtain ⟨g, b⟩ := r
          unfold outFs at h
          split at h
          · rename_i b' q' e4 e5
            cases h
            refine ⟨(fun z => by cases z), fun k q e => ?_⟩
            cases k with
            | zero =>
              cases e
              exact ⟨(g, b), rfl, rfl, e4⟩
            | succ k => exact (ih e5).2 k q (by simpa using e)
          · cases h
      rcases e3 with ⟨z1, z2⟩ | ⟨dd, ws, e4, e5, e6⟩
      · exact .inl ⟨(rel ef).1 z1, z2⟩
      · refine .inr ⟨dd, ws, e4, e5, fun k q hq => ?_⟩
        obtain ⟨r, r1, r2, r3⟩ := (rel ef).2 k q hq
        obtain ⟨v, e7, vr⟩ := e6 k r r1
        refine ⟨v, by rw [← r2]; exact e7, ?_⟩
        have pu : ∀ a, VR K m1 H' a v → (if pureA a then some a else none) = some q.2 → VR K m H' q.2 v := fun a vv h => by
          split at h
          · rename_i hp
            cases h
            exact vv.pure hp
          · cases h
        obtain ⟨rf, ra⟩ := r
        simp only at vr r3
        cases ra with
        | ref j =>
          cases vr with
          | @ref j b hj =>
            unfold outV at r3
            dsimp only at r3
            split at r3
            · rename_i l hl
              have e8 := Option.some.inj r3
              rw [← e8]
              exact .ref (back p hl hj)
            · cases r3
        | non => exact pu _ vr r3
        | bl _ => exact pu _ vr r3
        | int _ => exact pu _ vr r3
        | str _ => exact pu _ vr r3
        | tup _ => exact pu _ vr r3
        | rol _ => exact pu _ vr r3
    · exact h.elim

/-! ### all defs at once -/
abbrev Prog := Nat → Option FD
def runM (md : Md) (f : List A → Sto → Rs A) : List A → Sto → Rs A := match md with
  | .gen => f
  | .ro => roRun f
  | .win => winRun f
def callN (P : Prog) : Nat → CallT
  | 0 => fun _ _ _ => .bad
  | n + 1 => fun f as st => match P f with
    | some fd => runM fd.md (runB (callN P n) fd) as st
    | none => .bad
theorem runM_imp {K : PySem.W.Frag} {cx : Str → Option Addr} {n : Nat} {md : Md} {f : List A → Sto → Rs A} : ∀ vs H Q E, spI K cx n (runM md f) vs H Q E → spI K cx n f vs H Q E := by
  cases md with
  | gen => exact fun _ _ _ _ h => h
  | ro => exact ro_imp
  | win => exact win_imp
theorem callN_zero {P : Program} {w : World} {K : PySem.W.Frag} {mg : Str → Option Value} {base : Heap} {cx : Str → Option Addr} {Pr : Prog} {fid k : Nat} {ps : List Str} {f : Addr} {fdd : FuncData} : FnOk P w K mg base (L2.CX P w) k f fdd ps (spI K cx ps.length (callN Pr 0 fid)) :=
  ⟨fun vs H Q E h => h.1, fun A outer s H args us vs Q E _ _ _ _ ⟨_, _, _, _, _, _, h⟩ => h.elim⟩
theorem callN_succ {P : Program} {w : World} {K : PySem.W.Frag} {mg : Str → Option Value} {base : Heap} {cx : Str → Option Addr} {Pr : Prog} {fid k n : Nat} {ps : List Str} {f : Addr} {fdd : FuncData} {fd : FD} (h : Pr fid = some fd) (F : FnOk P w K mg base (L2.CX P w) k f fdd ps (spI K cx ps.length (runB (callN Pr n) fd))) :
    FnOk P w K mg base (L2.CX P w) k f fdd ps (spI K cx ps.length (callN Pr (n + 1) fid)) := F.imp fun vs H Q E q => by
  have e : callN Pr (n + 1) fid = runM fd.md (runB (callN Pr n) fd) := by
    funext as st
    rw [callN]
    dsimp only
    rw [h]
  rw [e] at q
  exact runM_imp vs H Q E q
end MP

/-! The primitive operations and their rules (own work). -/
namespace MP
open PySem PySem.Spec PyProof.Rows L2

/-! ### ints -/
def fII (c : Int → Int → Bool) (g : Int → Int → A) (a b : A) (st : Sto) : Rs A := match a, b with
  | .int i, .int j => if c i j = true then .ok (g i j) st else .bad
  | _, _ => .bad
theorem ops_ii {K : PySem.W.Frag} {c : Int → Int → Bool} {g : Int → Int → A} {cv : Int → Int → Prop} {gv : Int → Int → V} (hc : ∀ i j, c i j = true → cv i j) (hg : ∀ m H i j, VR K m H (g i j) (gv i j)) : OpS K (fII c g) (rI cv gv) := fun m H st a b x y R va vb => by
  unfold fII
  split
  · split
    · rename_i h
      cases va
      cases vb
      exact fun Q q => ⟨_, _, rfl, rfl, hc _ _ h, q H m _ (Post.refl R) (hg _ _ _ _)⟩
    · trivial
  · trivial
theorem ops_ii0 {K : PySem.W.Frag} {g : Int → Int → A} {gv : Int → Int → V} (hg : ∀ m H i j, VR K m H (g i j) (gv i j)) : OpS K (fII (fun _ _ => true) g) (rI0 gv) := fun m H st a b x y R va vb => by
  unfold fII
  split
  · split
    · cases va
      cases vb
      exact fun Q q => ⟨_, _, rfl, rfl, q H m _ (Post.refl R) (hg _ _ _ _)⟩
    · trivial
  · trivial
abbrev fSub := fII (fun _ _ => true) fun i j => .int (i - j)
abbrev fMul := fII (fun i j => decide (i.natAbs.log2 + j.natAbs.log2 < 1000000)) fun i j => .int (i * j)
abbrev fDiv := fII (fun i j => decide (0 < j ∧ j.natAbs.log2 < 9000)) fun i j => .int (i / j)
abbrev fMod := fII (fun _ j => decide (0 < j)) fun i j => .int (i % j)
abbrev fPow := fII (fun i j => decide (0 ≤ j ∧ j ≤ 1000000 ∧ i.natAbs < 2 ^ 64)) fun i j => .int (i ^ j.toNat)
abbrev fLtI := fII (fun _ _ => true) fun i j => .bl (decide (i < j))
abbrev fLeI := fII (fun _ _ => true) fun i j => .bl (decide (i ≤ j))
abbrev fGtI := fII (fun _ _ => true) fun i j => .bl (decide (j < i))
abbrev fGeI := fII (fun _ _ => true) fun i j => .bl (decide (j ≤ i))
section
variable {K : PySem.W.Frag}
theorem s_sub : OpS K fSub (rI0 fun i j => .int (i - j)) := ops_ii0 fun _ _ _ _ => .int _
theorem s_mul : OpS K fMul (rI CMulW fun i j => .int (i * j)) := ops_ii (fun i j h => of_decide_eq_true (p := i.natAbs.log2 + j.natAbs.log2 < 1000000) h) fun _ _ _ _ => .int _
theorem s_div : OpS K fDiv (rI CDivW fun i j => .int (i / j)) := ops_ii (fun i j h => of_decide_eq_true (p := 0 < j ∧ j.natAbs.log2 < 9000) h) fun _ _ _ _ => .int _
theorem s_mod : OpS K fMod (rI (fun _ j => 0 < j) fun i j => .int (i % j)) := ops_ii (fun _ _ h => of_decide_eq_true h) fun _ _ _ _ => .int _
theorem s_pow : OpS K fPow (rI CPow fun i j => .int (i ^ j.toNat)) := ops_ii (fun i j h => of_decide_eq_true (p := 0 ≤ j ∧ j ≤ 1000000 ∧ i.natAbs < 2 ^ 64) h) fun _ _ _ _ => .int _
theorem s_lt : OpS K fLtI (rI0 fun i j => .bl (decide (i < j))) := ops_ii0 fun _ _ _ _ => .bl _
theorem s_le : OpS K fLeI (rI0 fun i j => .bl (decide (i ≤ j))) := ops_ii0 fun _ _ _ _ => .bl _
theorem s_gt : OpS K fGtI (rI0 fun i j => .bl (decide (j < i))) := ops_ii0 fun _ _ _ _ => .bl _
theorem s_ge : OpS K fGeI (rI0 fun i j => .bl (decide (j ≤ i))) := ops_ii0 fun _ _ _ _ => .bl _
end
def fNeg (a : A) (st : Sto) : Rs A := match a with
  | .int i => .ok (.int (-i)) st
  | _ => .bad
theorem s_neg {K : PySem.W.Frag} : UnS K fNeg (rU fun i => .int (-i)) := fun m H st a x R va => by
  unfold fNeg
  split
  · cases va
    exact fun Q q => ⟨_, rfl, q H m _ (Post.refl R) (.int _)⟩
  · trivial

/-! ### + -/
def fAdd (a b : A) (st : Sto) : Rs A := match a, b with
  | .int i, .int j => .ok (.int (i + j)) st
  | .str i, .str j => if lenOk (i.length + j.length) then .ok (.str (i ++ j)) st else .bad
  | .tup xs, .tup ys => if lenOk (xs.length + ys.length) then .ok (.tup (xs ++ ys)) st else .bad
  | .ref l, .ref k => match st[l]?, st[k]? with
    | some (.lst xs), some (.lst ys) => if lenOk (xs.length + ys.length) then .ok (.ref st.length) (st ++ [.lst (xs ++ ys)]) else .bad
    | _, _ => .bad
  | _, _ => .bad
abbrev rAddA (K : PySem.W.Frag) : R2 := fun x y H Q => rI0 (fun i j => .int (i + j)) x y H Q ∨ (∃ i j, x = .str i ∧ y = .str j ∧ i.length + j.length ≤ sizeLine ∧ Q (.str (i ++ j)) H) ∨ rCatA K x y H Q ∨ rCat x y H Q
theorem o_add {X : Cx} : OpR X (binaryOp .Add) (rAddA X.K) := op_add.or (op_add_str.or (op_catA.or op_cat))
theorem s_add {K : PySem.W.Frag} : OpS K fAdd (rAddA K) := fun m H st a b x y R va vb => by
  unfold fAdd
  split
  · cases va
    cases vb
    exact fun Q q => .inl ⟨_, _, rfl, rfl, q H m _ (Post.refl R) (.int _)⟩
  · split
    · rename_i h
      cases va
      cases vb
      exact fun Q q => .inr (.inl ⟨_, _, rfl, rfl, lenOk.le h, q H m _ (Post.refl R) (.str _)⟩)
    · trivial
  · rename_i xs ys
    split
    · rename_i h
      cases va with
      | @tup p _ vs hs hv =>
      cases vb with
      | @tup p2 _ vs2 hs2 hv2 =>
      refine fun Q q => .inr (.inr (.inl ⟨p, p2, vs, vs2, rfl, rfl, hs, hs2, by rw [← hv.length, ← hv2.length]; exact lenOk.le h, fun e => ?_, fun _ e => ?_, fun _ _ p hp => ?_⟩))
      · subst e
        cases hv
        exact q H m _ (Post.refl R) (.tup hs2 hv2)
      · subst e
        cases hv2
        exact q H m _ (Post.refl R) (.tup hs (by rw [List.append_nil]; exact hv))
      · exact new_tup R (hv.append hv2) hp q
    · trivial
  · rename_i l k
    split
    · rename_i xs ys e1 e2
      split
      · rename_i h
        cases va with
        | @ref _ p hl =>
        cases vb with
        | @ref _ p2 hk =>
        obtain ⟨vs, hH, hv⟩ := R.lstAt e1 hl
        obtain ⟨vs2, hH2, hv2⟩ := R.lstAt e2 hk
        exact fun Q q => .inr (.inr (.inr ⟨p, p2, vs, vs2, rfl, rfl, hH, hH2, by rw [← hv.length, ← hv2.length]; exact lenOk.le h, fun p hp => new_lst R (hv.append hv2) hp q⟩))
      · trivial
    · trivial
  · trivial

/-! ### ==, != -/
mutual
def toD : Nat → Sto → A → Option PyData
  | 0, _, _ => none
  | n + 1, st, a => match a with
    | .non => some .none
    | .bl b => some (.bool b)
    | .int i => some (.int i)
    | .str x => some (.str x)
    | .tup xs => (toDs n st xs).map .tuple
    | .rol xs => (toDs n st xs).map .list
    | .ref l => match st[l]? with
      | some (.lst xs) => (toDs n st xs).map .list
      | _ => none
def toDs : Nat → Sto → List A → Option (List PyData)
  | 0, _, _ => none
  | _ + 1, _, [] => some []
  | n + 1, st, x :: xs => match toD n st x, toDs n st xs with
    | some d, some ds => some (d :: ds)
    | _, _ => none
end
mutual
theorem toD_ok {K : PySem.W.Frag} {m : List Addr} {H : Hp} {st : Sto} (R : Rel K m H st) : ∀ (n : Nat) (a : A) (v : V) (d : PyData), VR K m H a v → toD n st a = some d → Dp K H v d
  | 0, _, _, _, _, h => by simp [toD] at h
  | n + 1, a, v, d, va, h => by
    rw [toD.eq_def] at h
    dsimp only at h
    cases va with
    | non => cases h; exact .non
    | bl b => cases h; exact .bl b
    | int i => cases h; exact .int i
    | str x => cases h; exact .str x
    | tup hs hv =>
      obtain ⟨ds, e, rfl⟩ := Option.map_eq_some_iff.mp h
      exact .tup hs (toDs_ok R n _ _ ds hv e)
    | rol hs hv =>
      obtain ⟨ds, e, rfl⟩ := Option.map_eq_some_iff.mp h
      exact .lst hs.sq (toDs_ok R n _ _ ds hv e)
    | @ref l p hl =>
      dsimp only at h
      obtain ⟨o, ho, q⟩ := R.has hl
      rw [ho] at h
      cases o with
      | lst xs =>
        obtain ⟨vs, ea, hv⟩ := q
        obtain ⟨ds, e, rfl⟩ := Option.map_eq_some_iff.mp h
        exact .lst (.of ea) (toDs_ok R n _ _ ds hv e)
      | dct _ => cases h
      | fdc _ => cases h
theorem toDs_ok {K : PySem.W.Frag} {m : List Addr} {H : Hp} {st : Sto} (R : Rel K m H st) : ∀ (n : Nat) (as : List A) (vs : List V) (ds : List PyData), VRs K m H as vs → toDs n st as = some ds → DpAll K H vs ds
  | 0, _, _, _, _, h => by simp [toDs] at h
  | n + 1, [], _, ds, va, h => by
    cases va
    rw [toDs] at h
    cases h
    exact .nil
  | n + 1, a :: as, _, ds, va, h => by
    cases va with
    | cons r t =>
      rw [toDs] at h
      split at h
      · rename_i d ds' e1 e2
        cases h
        exact .cons (toD_ok R n _ _ d r e1) (toDs_ok R n _ _ ds' t e2)
      · cases h
end
/-- how many levels of data == looks at -/
def eqFuel : Nat := 1000
def fEq (a b : A) (st : Sto) : Rs A := match a, b with
  | .int i, .int j => .ok (.bl (decide (i = j))) st
  | .str i, .str j => .ok (.bl (decide (i = j))) st
  | .bl i, .bl j => .ok (.bl (decide (i = j))) st
  | a, b => match toD eqFuel st a, toD eqFuel st b with
    | some d, some e => if SeqAt.shaped d = true ∧ SeqAt.shaped e = true then .ok (.bl (PyData.eqv d e)) st else .bad
    | _, _ => .bad
def fNe (a b : A) (st : Sto) : Rs A := match a, b with
  | .int i, .int j => .ok (.bl (!decide (i = j))) st
  | .str i, .str j => .ok (.bl (!decide (i = j))) st
  | .bl i, .bl j => .ok (.bl (!decide (i = j))) st
  | a, b => match toD eqFuel st a, toD eqFuel st b with
    | some d, some e => if SeqAt.shaped d = true ∧ SeqAt.shaped e = true then .ok (.bl (!PyData.eqv d e)) st else .bad
    | _, _ => .bad
abbrev rEqA (K : PySem.W.Frag) : R2 := fun x y H Q => rEq x y H Q ∨ rEqD K x y H Q
abbrev rNeA (K : PySem.W.Frag) : R2 := fun x y H Q => rNe x y H Q ∨ rNeD K x y H Q
theorem o_eq {X : Cx} {k : Nat} (hr : Room k X.A) : OpR X (compareOp .Eq) (rEqA X.K) := op_eq.or (op_eqD hr.units)
theorem o_ne {X : Cx} {k : Nat} (hr : Room k X.A) : OpR X (compareOp .NotEq) (rNeA X.K) := op_ne.or (op_neD hr.units)
theorem s_eq {K : PySem.W.Frag} : OpS K fEq (rEqA K) := fun m H st a b x y R va vb => by
  unfold fEq
  split
  · cases va
    cases vb
    exact fun Q q => .inl ⟨rfl, by simpa using q H m _ (Post.refl R) (.bl _)⟩
  · cases va
    cases vb
    exact fun Q q => .inl ⟨rfl, by simpa using q H m _ (Post.refl R) (.bl _)⟩
  · cases va
    cases vb
    exact fun Q q => .inl ⟨rfl, by simpa using q H m _ (Post.refl R) (.bl _)⟩
  · split
    · rename_i d e h1 h2
      split
      · rename_i hs
        exact fun Q q => .inr ⟨d, e, toD_ok R _ _ _ _ va h1, toD_ok R _ _ _ _ vb h2, hs.1, hs.2, q H m _ (Post.refl R) (.bl _)⟩
      · trivial
    · trivial
theorem s_ne {K : PySem.W.Frag} : OpS K fNe (rNeA K) := fun m H st a b x y R va vb => by
  unfold fNe
  split
  · cases va
    cases vb
    exact fun Q q => .inl ⟨rfl, by simpa using q H m _ (Post.refl R) (.bl _)⟩
  · cases va
    cases vb
    exact fun Q q => .inl ⟨rfl, by simpa using q H m _ (Post.refl R) (.bl _)⟩
  · cases va
    cases vb
    exact fun Q q => .inl ⟨rfl, by simpa using q H m _ (Post.refl R) (.bl _)⟩
  · split
    · rename_i d e h1 h2
      split
      · rename_i hs
        exact fun Q q => .inr ⟨d, e, toD_ok R _ _ _ _ va h1, toD_ok R _ _ _ _ vb h2, hs.1, hs.2, q H m _ (Post.refl R) (.bl _)⟩
      · trivial
    · trivial

/-! ### is -/
def isNonA : A → Bool
  | .non => true
  | _ => false
def fIs (a b : A) (st : Sto) : Rs A := match b with
  | .non => .ok (.bl (isNonA a)) st
  | .bl j => match a with
    | .bl i => .ok (.bl (decide (i = j))) st
    | _ => .bad
  | _ => .bad
def fIsNot (a b : A) (st : Sto) : Rs A := match b with
  | .non => .ok (.bl (!isNonA a)) st
  | .bl j => match a with
    | .bl i => .ok (.bl (!decide (i = j))) st
    | _ => .bad
  | _ => .bad
abbrev rIsA : R2 := fun x y H Q => (y = .non ∧ Q (.bl (decide (x = .non))) H) ∨ rIsB x y H Q
abbrev rIsNotA : R2 := fun x y H Q => (y = .non ∧ Q (.bl (!decide (x = .non))) H) ∨ rNotB x y H Q
theorem o_is {X : Cx} : OpR X (compareOp .Is) rIsA := op_isN.or op_isBl
theorem o_isNot {X : Cx} : OpR X (compareOp .IsNot) rIsNotA := op_notN.or op_notBl
theorem isNon_vr {K : PySem.W.Frag} {m : List Addr} {H : Hp} {a : A} {x : V} (h : VR K m H a x) : isNonA a = decide (x = .non) := by
  cases h <;> simp [isNonA]
theorem s_is {K : PySem.W.Frag} : OpS K fIs rIsA := fun m H st a b x y R va vb => by
  unfold fIs
  split
  · cases vb
    rw [isNon_vr va]
    exact fun Q q => .inl ⟨rfl, q H m _ (Post.refl R) (.bl _)⟩
  · split
    · cases va
      cases vb
      exact fun Q q => .inr ⟨_, _, rfl, rfl, q H m _ (Post.refl R) (.bl _)⟩
    · trivial
  · trivial
theorem s_isNot {K : PySem.W.Frag} : OpS K fIsNot rIsNotA := fun m H st a b x y R va vb => by
  unfold fIsNot
  split
  · cases vb
    rw [isNon_vr va]
    exact fun Q q => .inl ⟨rfl, q H m _ (Post.refl R) (.bl _)⟩
  · split
    · cases va
      cases vb
      exact fun Q q => .inr ⟨_, _, rfl, rfl, q H m _ (Post.refl R) (.bl _)⟩
    · trivial
  · trivial

/-! ### dicts -/
def valA (kvs : List (Key × A)) (k : Key) : Option A := (kvs.find? fun kv => decide (kv.1 = k)).map (·.2)
section
variable {K : PySem.W.Frag} {m : List Addr} {H : Hp}
theorem dk_val (k : Key) : ∀ {kvs : List (Key × A)} {ws : List (Key × V)}, kvs.map (·.1) = ws.map (·.1) → VRs K m H (kvs.map (·.2)) (ws.map (·.2)) → (valA kvs k = none ∧ valV ws k = none) ∨ ∃ a v, valA kvs k = some a ∧ valV ws k = some v ∧ VR K m H a v
  | [], [], _, _ => .inl ⟨rfl, rfl⟩
  | [], _ :: _, h, _ => by cases h
  | _ :: _, [], h, _ => by cases h
  | (k1, a) :: kvs, (k2, v) :: ws, h, hv => by
    rw [List.map_cons, List.map_cons] at h
    injection h with h1 h2
    have h1' : k1 = k2 := h1
    subst h1'
    cases hv with
    | cons r t =>
      by_cases e : k1 = k
      · refine .inr ⟨a, v, ?_, ?_, r⟩
        · simp [valA, e]
        · simp [valV, e]
      · have := dk_val k h2 t
        simpa [valA, valV, e] using this
theorem put_rel (k : Key) {a : A} {v : V} (r : VR K m H a v) {kvs : List (Key × A)} {ws : List (Key × V)} (h : kvs.map (·.1) = ws.map (·.1)) (hv : VRs K m H (kvs.map (·.2)) (ws.map (·.2))) : (putA kvs k a).map (·.1) = (putK ws k v).map (·.1) ∧ VRs K m H ((putA kvs k a).map (·.2)) ((putK ws k v).map (·.2)) := by
  have e : (kvs.any fun kv => decide (kv.1 = k)) = ws.any fun kv => decide (kv.1 = k) := by
    have h1 : (kvs.any fun kv => decide (kv.1 = k)) = (kvs.map (·.1)).any fun z => decide (z = k) := by rw [List.any_map]; rfl
    have h2 : (ws.any fun kv => decide (kv.1 = k)) = (ws.map (·.1)).any fun z => decide (z = k) := by rw [List.any_map]; rfl
    rw [h1, h2, h]
  unfold putA putK
  rw [e]
  split
  · clear e
    rename_i z
    clear z
    induction kvs generalizing ws with
    | nil =>
      cases ws with
      | nil => exact ⟨rfl, .nil⟩
      | cons _ _ => cases h
    | cons p kvs ih =>
      cases ws with
      | nil => cases h
      | cons p2 ws =>
        rw [List.map_cons, List.map_cons] at h
        injection h with h1 h2
        cases hv with
        | cons q t =>
          obtain ⟨i1, i2⟩ := ih h2 t
          obtain ⟨k1, a1⟩ := p
          obtain ⟨k2, v1⟩ := p2
          have h1' : k1 = k2 := h1
          subst h1'
          by_cases e : k1 = k
          · subst e
            simp only [List.map_cons, if_true]
            exact ⟨by rw [i1], .cons r i2⟩
          · simp only [List.map_cons, if_neg e]
            exact ⟨by rw [i1], .cons q i2⟩
  · rw [List.map_append, List.map_append, List.map_append, List.map_append, h]
    exact ⟨rfl, hv.append (.cons r .nil)⟩
end
theorem keyOf_kV {K : PySem.W.Frag} {m : List Addr} {H : Hp} {a : A} {v : V} {k : Key} (h : keyOf a = some k) (r : VR K m H a v) : v = kV k := by
  cases r <;> cases h <;> rfl
/-- the dict at l -/
def dctAt (o : A) (st : Sto) : Option (List (Key × A)) := match o with
  | .ref l => match st[l]? with
    | some (.dct kvs) => some kvs
    | some (.fdc kvs) => some kvs
    | _ => none
  | _ => none
theorem dct_at {K : PySem.W.Frag} {m : List Addr} {H : Hp} {st : Sto} {o : A} {x : V} {kvs : List (Key × A)} (R : Rel K m H st) (va : VR K m H o x) (h : dctAt o st = some kvs) : ∃ a ws, x = .ref a ∧ Rd H a (.dK ws) ∧ kvs.map (·.1) = ws.map (·.1) ∧ VRs K m H (kvs.map (·.2)) (ws.map (·.2)) := by
  cases va with
  | @ref l p hl =>
    obtain ⟨ob, ho, q⟩ := R.has hl
    unfold dctAt at h
    dsimp only at h
    rw [ho] at h
    cases ob with
    | lst _ => cases h
    | dct kvs' =>
      cases h
      obtain ⟨ws, e1, e2, e3⟩ := q
      exact ⟨p, ws, rfl, .inl e1, e2, e3⟩
    | fdc kvs' =>
      cases h
      obtain ⟨od, ws, e1, e2, e3⟩ := q
      exact ⟨p, ws, rfl, .inr ⟨od, e1⟩, e2, e3⟩
  | _ => cases h
theorem dget_at {K : PySem.W.Frag} {m : List Addr} {H : Hp} {st : Sto} {o i : A} {x y : V} {kvs : List (Key × A)} {k : Key} (R : Rel K m H st) (va : VR K m H o x) (vi : VR K m H i y) (h : dctAt o st = some kvs) (hk : keyOf i = some k) :
    ∃ a, x = .ref a ∧ ((valA kvs k = none ∧ DGet H a y none) ∨ ∃ z v, valA kvs k = some z ∧ DGet H a y (some v) ∧ VR K m H z v) := by
  obtain ⟨a, ws, rfl, hd, e1, e2⟩ := dct_at R va h
  refine ⟨a, rfl, ?_⟩
  rcases dk_val k e1 e2 with ⟨h1, h2⟩ | ⟨z, v, h1, h2, r⟩
  · exact .inl ⟨h1, .inl ⟨ws, k, hd, keyOf_kV hk vi, h2.symm⟩⟩
  · exact .inr ⟨z, v, h1, .inl ⟨ws, k, hd, keyOf_kV hk vi, h2.symm⟩, r⟩
def rDGetV : R2 := fun x y H Q => ∃ a v, x = .ref a ∧ DGet H a y (some v) ∧ Q v H
theorem ix_d {X : Cx} {k : Nat} (hr : Room k X.A) : IxR X rDGetV := by
  intro value slice pins s σ H x y v u Q I rx ry h hs
  obtain ⟨p, z, rfl, g, q⟩ := h
  obtain rfl : v = Value.ref p := rx
  have hu : X.A.units + 1 < cLine := by have := hr.units; omega
  exact tail_any (dict_typeIs I g) PySem.F.slot_dict_getitem.lookup (d_getItem hu I g ry fun w' s' I' r' => ⟨z, H, I', r', q⟩) hs

/-! ### subscripts -/
def fIx (a b : A) (st : Sto) : Rs A := match dctAt a st with
  | some kvs => match keyOf b with
    | some k => match valA kvs k with
      | some z => .ok z st
      | none => .bad
    | none => .bad
  | none => match b with
    | .int i => match a with
      | .str x => if lenOk x.length then (match atI x.cps.toList i with
        | some c => .ok (.str ⟨#[c]⟩) st
        | none => .bad) else .bad
      | a => match itemsOf a st with
        | some xs => match atI xs i with
          | some z => .ok z st
          | none => .bad
        | none => .bad
    | _ => .bad
abbrev rIxA (K : PySem.W.Frag) : R2 := fun x y H Q => rDGetV x y H Q ∨ rIxL K x y H Q ∨ rIxT K x y H Q ∨ rIxS x y H Q
theorem o_ix {X : Cx} {k : Nat} (hr : Room k X.A) : IxR X (rIxA X.K) := (ix_d hr).or (ix_list.or (ix_tup.or ix_str))
theorem atI_vrs {K : PySem.W.Frag} {m : List Addr} {H : Hp} {xs : List A} {vs : List V} {i : Int} {z : A} (h : VRs K m H xs vs) (e : atI xs i = some z) : ∃ v, atI vs i = some v ∧ VR K m H z v := by
  unfold atI at e ⊢
  rw [← h.length]
  cases hj : ixN xs.length i with
  | none => rw [hj] at e; cases e
  | some j =>
    rw [hj] at e
    exact h.get e
theorem items_at {K : PySem.W.Frag} {m : List Addr} {H : Hp} {st : Sto} {o : A} {x : V} {xs : List A} (R : Rel K m H st) (va : VR K m H o x) (h : itemsOf o st = some xs) : ∃ a vs, x = .ref a ∧ (SqT K H a vs ∨ SqL K H a vs) ∧ VRs K m H xs vs := by
  cases va with
  | @ref l p hl =>
    obtain ⟨ob, ho, q⟩ := R.has hl
    unfold itemsOf at h
    dsimp only at h
    rw [ho] at h
    cases ob with
    | lst _ =>
      cases h
      obtain ⟨vs, e, r⟩ := q
      exact ⟨p, vs, rfl, .inr (.of e), r⟩
    | dct kvs' => cases h
    | fdc kvs' => cases h
  | tup hs hv => cases h; exact ⟨_, _, rfl, .inl hs, hv⟩
  | rol hs hv => cases h; exact ⟨_, _, rfl, .inr hs.sq, hv⟩
  | _ => cases h
theorem s_ix {K : PySem.W.Frag} : OpS K fIx (rIxA K) := fun m H st a b x y R va vb => by
  unfold fIx
  split
  · rename_i kvs hd
    split
    · rename_i k hk
      obtain ⟨p, rfl, h⟩ := dget_at R va vb hd hk
      split
      · rename_i z hz
        rcases h with ⟨h1, _⟩ | ⟨z', v, h1, g, r⟩
        · rw [h1] at hz; cases hz
        · rw [h1] at hz
          cases hz
          exact fun Q q => .inl ⟨p, v, rfl, g, q H m _ (Post.refl R) r⟩
      · trivial
    · trivial
  · split
    · rename_i i
      cases vb
      split
      · split
        · rename_i hl
          split
          · rename_i c hc
            cases va
            exact fun Q q => .inr (.inr (.inr ⟨_, _, c, rfl, rfl, lenOk.le hl, hc, q H m _ (Post.refl R) (.str _)⟩))
          · trivial
        · trivial
      · split
        · rename_i xs hx
          obtain ⟨p, vs, rfl, hs, hv⟩ := items_at R va hx
          split
          · rename_i z hz
            obtain ⟨v, e, r⟩ := atI_vrs hv hz
            rcases hs with hs | hs
            · exact fun Q q => .inr (.inr (.inl ⟨p, vs, i, v, rfl, rfl, hs, e, q H m _ (Post.refl R) r⟩))
            · exact fun Q q => .inr (.inl ⟨p, vs, i, v, rfl, rfl, hs, e, q H m _ (Post.refl R) r⟩)
          · trivial
        · trivial
    · trivial

/-! ### in, not in -/
def flatA : A → Bool
  | .non => true
  | .bl _ => true
  | .int _ => true
  | .str _ => true
  | _ => false
def eqA : A → A → Bool
  | .non, .non => true
  | .bl a, .bl b => a == b
  | .bl a, .int b => (if a then 1 else 0) == b
  | .int a, .bl b => a == (if b then 1 else 0)
  | .int a, .int b => a == b
  | .str a, .str b => a == b
  | _, _ => false
def fInN (neg : Bool) (a b : A) (st : Sto) : Rs A := match dctAt b st with
  | some kvs => match keyOf a with
    | some k => .ok (.bl (if neg then !(valA kvs k).isSome else (valA kvs k).isSome)) st
    | none => .bad
  | none => match a, b with
    | .str i, .str j => .ok (.bl (if neg then !(!(Builtin.Str.occurrences j i 0 j.length 1).isEmpty) else !(Builtin.Str.occurrences j i 0 j.length 1).isEmpty)) st
    | a, b => match itemsOf b st with
      | some xs => if flatA a = true ∧ xs.all flatA = true then .ok (.bl (if neg then !(xs.any fun y => eqA y a) else xs.any fun y => eqA y a)) st else .bad
      | none => .bad
abbrev fIn := fInN false
abbrev fNotIn := fInN true
theorem flat_vr {K : PySem.W.Frag} {m : List Addr} {H : Hp} {a : A} {x : V} (h : VR K m H a x) (f : flatA a = true) : flatV x = true := by
  cases h <;> first | rfl | cases f
theorem flats_vr {K : PySem.W.Frag} {m : List Addr} {H : Hp} : ∀ {as : List A} {xs : List V}, VRs K m H as xs → as.all flatA = true → xs.all flatV = true
  | _, _, .nil, _ => rfl
  | _, _, .cons r t, f => by
    rw [List.all_cons, Bool.and_eq_true] at f ⊢
    exact ⟨flat_vr r f.1, flats_vr t f.2⟩
theorem eq_vr {K : PySem.W.Frag} {m : List Addr} {H : Hp} {a b : A} {x y : V} (h : VR K m H a x) (h' : VR K m H b y) : eqA a b = eqV x y := by
  cases h <;> cases h' <;> rfl
theorem anyeq_vr {K : PySem.W.Frag} {m : List Addr} {H : Hp} {a : A} {x : V} (h : VR K m H a x) : ∀ {as : List A} {xs : List V}, VRs K m H as xs → (as.any fun y => eqA y a) = inV x xs
  | _, _, .nil => rfl
  | _, _, .cons r t => by
    have := anyeq_vr h t
    unfold inV at this ⊢
    rw [List.any_cons, List.any_cons, this, eq_vr r h]
def rDInV (neg : Bool) : R2 := fun x y H Q => ∃ a o, y = .ref a ∧ DGet H a x o ∧ Q (.bl (if neg then !o.isSome else o.isSome)) H
theorem op_din {X : Cx} {k : Nat} (hr : Room k X.A) : OpR X (compareOp .In) (rDInV false) := by
  intro pins s σ H x y v u Q I rx ry h
  obtain ⟨a, o, rfl, g, q⟩ := h
  obtain rfl : u = Value.ref a := ry
  have hu : X.A.units + 1 < cLine := by have := hr.units; omega
  exact d_in hu I g rx fun s' I' => ⟨.bl o.isSome, H, I', rfl, q⟩
theorem op_dnotin {X : Cx} {k : Nat} (hr : Room k X.A) : OpR X (compareOp .NotIn) (rDInV true) := by
  intro pins s σ H x y v u Q I rx ry h
  obtain ⟨a, o, rfl, g, q⟩ := h
  obtain rfl : u = Value.ref a := ry
  have hu : X.A.units + 1 < cLine := by have := hr.units; omega
  exact d_notIn hu I g rx fun s' I' => ⟨.bl (!o.isSome), H, I', rfl, q⟩
def rInStr (neg : Bool) : R2 := fun x y H Q => ∃ i j, x = .str i ∧ y = .str j ∧ Q (.bl (if neg then !(!(Builtin.Str.occurrences j i 0 j.length 1).isEmpty) else !(Builtin.Str.occurrences j i 0 j.length 1).isEmpty)) H
abbrev rInA (K : PySem.W.Frag) (neg : Bool) : R2 := fun x y H Q => rDInV neg x y H Q ∨ rInStr neg x y H Q ∨ rIn K neg x y H Q
theorem o_in {X : Cx} {k : Nat} (hr : Room k X.A) : OpR X (compareOp .In) (rInA X.K false) := (op_din hr).or ((show OpR X (compareOp .In) (rInStr false) from op_in_str).or op_in_seq)
theorem o_notIn {X : Cx} {k : Nat} (hr : Room k X.A) : OpR X (compareOp .NotIn) (rInA X.K true) := (op_dnotin hr).or ((show OpR X (compareOp .NotIn) (rInStr true) from op_notIn_str).or op_notIn_seq)
theorem s_inN {K : PySem.W.Frag} (neg : Bool) : OpS K (fInN neg) (rInA K neg) := fun m H st a b x y R va vb => by
  unfold fInN
  split
  · rename_i kvs hd
    split
    · rename_i k hk
      obtain ⟨p, rfl, h⟩ := dget_at R vb va hd hk
      rcases h with ⟨h1, g⟩ | ⟨z', v, h1, g, r⟩
      · rw [h1]
        exact fun Q q => .inl ⟨p, none, rfl, g, q H m _ (Post.refl R) (.bl _)⟩
      · rw [h1]
        exact fun Q q => .inl ⟨p, some v, rfl, g, q H m _ (Post.refl R) (.bl _)⟩
    · trivial
  · split
    · cases va
      cases vb
      exact fun Q q => .inr (.inl ⟨_, _, rfl, rfl, q H m _ (Post.refl R) (.bl _)⟩)
    · split
      · rename_i xs hx
        split
        · rename_i hf
          obtain ⟨p, vs, rfl, hs, hv⟩ := items_at R vb hx
          rw [anyeq_vr va hv]
          exact fun Q q => .inr (.inr ⟨p, vs, rfl, hs.symm, flat_vr va hf.1, flats_vr hv hf.2, q H m _ (Post.refl R) (.bl _)⟩)
        · trivial
      · trivial
theorem s_in {K : PySem.W.Frag} : OpS K fIn (rInA K false) := s_inN false
theorem s_notIn {K : PySem.W.Frag} : OpS K fNotIn (rInA K true) := s_inN true

/-! ### o[i] = v -/
abbrev rSetA : TSet := fun o i v H Q => rSetL o i v H Q ∨ ∃ a H', o = .ref a ∧ DPut H a i v H' ∧ Q H'
theorem o_setIx {X : Cx} {k : Nat} (hr : Room k X.A) : PSet X rSetA := by
  intro pins s σ H o i v ov iv u Q I ro ri rv h
  rcases h with h | ⟨a, H', rfl, g, q⟩
  · exact set_list pins s σ H o i v ov iv u Q I ro ri rv h
  · obtain rfl : ov = Value.ref a := ro
    have hu : X.A.units + 1 < cLine := by have := hr.units; omega
    exact d_setItem hu I g ri rv fun s' I' => ⟨H', I', q⟩
theorem s_setIx {K : PySem.W.Frag} : ∀ (m : List Addr) (H : Hp) (st st' : Sto) (a b c : A) (x y z : V) (Q : Hp → Prop), Rel K m H st → VR K m H a x → VR K m H b y → VR K m H c z → setAt a b c st = some st' → (∀ H', Post K m H m H' st' → Q H') → rSetA x y z H Q := fun m H st st' a b c x y z Q R va vb vc h q => by
  unfold setAt at h
  cases va with
  | @ref l p hl =>
    obtain ⟨ob, ho, hob⟩ := R.has hl
    dsimp only at h
    rw [ho] at h
    cases ob with
    | lst xs =>
      obtain ⟨vs, e, hv⟩ := hob
      cases vb with
      | int i =>
        dsimp only at h
        split at h
        · rename_i j hj
          cases h
          refine .inl ⟨p, vs, i, j, rfl, rfl, e, by rw [← hv.length]; exact hj, q _ ?_⟩
          refine Post.mut R hl ⟨_, upd_same, ?_⟩ fun ob u z => by rw [e] at z; cases z
          have hst : Stb K H (upd H p (.lst (vs.set j z))) := by
            have := (Post.mut R (o := .lst []) (ob := .lst []) hl ⟨[], upd_same, .nil⟩ fun ob u z => by rw [e] at z; cases z).stb R
            constructor
            · intro a ys hs
              rcases hs with (hs | ⟨o, hs⟩) | hs
              · refine .inl (.inl ?_)
                rw [upd_ne (fun w => by rw [w, e] at hs; cases hs)]
                exact hs
              · refine .inl (.inr ⟨o, ?_⟩)
                rw [upd_ne (fun w => by rw [w, e] at hs; cases hs)]
                exact hs
              · exact .inr hs
            · intro a ys hs
              rcases hs with ⟨o, hs⟩ | hs
              · refine .inl ⟨o, ?_⟩
                rw [upd_ne (fun w => by rw [w, e] at hs; cases hs)]
                exact hs
              · exact .inr hs
          exact VRs.mono hst (fun _ _ h => h) (hv.set vc j)
        · cases h
      | _ => cases h
    | dct kvs =>
      obtain ⟨ws, e, h1, h2⟩ := hob
      dsimp only at h
      split at h
      · rename_i k hk
        split at h
        · rename_i hlen
          cases h
          have hl2 : ws.length < sizeLine := by
            have e1 : kvs.length = ws.length := by simpa using congrArg List.length h1
            rw [← e1, sizeLine_eq]
            omega
          refine .inr ⟨p, _, rfl, .inl ⟨ws, k, e, keyOf_kV hk vb, hl2, rfl⟩, q _ ?_⟩
          obtain ⟨p1, p2⟩ := put_rel k vc h1 h2
          refine Post.mut R hl ⟨_, upd_same, p1, ?_⟩ fun ob u z => by rw [e] at z; cases z
          have hst : Stb K H (upd H p (.dK (putK ws k z))) := by
            constructor
            · intro a ys hs
              rcases hs with (hs | ⟨o, hs⟩) | hs
              · refine .inl (.inl ?_)
                rw [upd_ne (fun w => by rw [w, e] at hs; cases hs)]
                exact hs
              · refine .inl (.inr ⟨o, ?_⟩)
                rw [upd_ne (fun w => by rw [w, e] at hs; cases hs)]
                exact hs
              · exact .inr hs
            · intro a ys hs
              rcases hs with ⟨o, hs⟩ | hs
              · refine .inl ⟨o, ?_⟩
                rw [upd_ne (fun w => by rw [w, e] at hs; cases hs)]
                exact hs
              · exact .inr hs
          exact VRs.mono hst (fun _ _ h => h) p2
        · cases h
      · cases h
    | fdc kvs => cases h
  | _ => cases h
end MP

/-! Calls of built-ins, isinstance, dicts that are walked, *, append (own work). -/
namespace MP
open PySem PySem.Spec PyProof.Rows L2

/-! ### built-ins -/
def listOf (x : A) (st : Sto) : Option (List A) := match x with
  | .ref l => match st[l]? with
    | some (.lst xs) => some xs
    | _ => none
  | .rol xs => some xs
  | _ => none
def intsOf : List A → Option (List Int)
  | [] => some []
  | .int i :: xs => (intsOf xs).map (i :: ·)
  | _ => none
def boolsOf : List A → Option (List Bool)
  | [] => some []
  | .bl i :: xs => (boolsOf xs).map (i :: ·)
  | _ => none
section
variable {K : PySem.W.Frag} {m : List Addr} {H : Hp} {st : Sto}
theorem list_at {o : A} {x : V} {xs : List A} (R : Rel K m H st) (va : VR K m H o x) (h : listOf o st = some xs) : ∃ a vs, x = .ref a ∧ SqL K H a vs ∧ VRs K m H xs vs := by
  cases va with
  | @ref l p hl =>
    obtain ⟨ob, ho, q⟩ := R.has hl
    unfold listOf at h
    dsimp only at h
    rw [ho] at h
    cases ob with
    | lst _ =>
      cases h
      obtain ⟨vs, e, r⟩ := q
      exact ⟨p, vs, rfl, .of e, r⟩
    | dct kvs' => cases h
    | fdc kvs' => cases h
  | rol hs hv => cases h; exact ⟨_, _, rfl, hs.sq, hv⟩
  | _ => cases h
theorem ints_at : ∀ {xs : List A} {vs : List V} {ns : List Int}, VRs K m H xs vs → intsOf xs = some ns → vs = ns.map V.int
  | _, _, _, .nil, h => by cases h; rfl
  | _, _, _, .cons r t, h => by
    cases r with
    | int i =>
      rw [intsOf] at h
      obtain ⟨ms, e, rfl⟩ := Option.map_eq_some_iff.mp h
      rw [ints_at t e]
      rfl
    | _ => simp [intsOf] at h
theorem bools_at : ∀ {xs : List A} {vs : List V} {ns : List Bool}, VRs K m H xs vs → boolsOf xs = some ns → vs = ns.map V.bl
  | _, _, _, .nil, h => by cases h; rfl
  | _, _, _, .cons r t, h => by
    cases r with
    | bl i =>
      rw [boolsOf] at h
      obtain ⟨ms, e, rfl⟩ := Option.map_eq_some_iff.mp h
      rw [bools_at t e]
      rfl
    | _ => simp [boolsOf] at h
end
def fAbs (as : List A) (st : Sto) : Rs A := match as with
  | [.int i] => .ok (.int (if i < 0 then -i else i)) st
  | _ => .bad
def fIntC (as : List A) (st : Sto) : Rs A := match as with
  | [.int i] => .ok (.int i) st
  | [.bl k] => .ok (.int (if k then 1 else 0)) st
  | _ => .bad
def fLen (as : List A) (st : Sto) : Rs A := match as with
  | [.str x] => if lenOk x.length then .ok (.int x.length) st else .bad
  | [.ref l] => match st[l]? with
    | some (.lst xs) => .ok (.int xs.length) st
    | some (.dct kvs) => .ok (.int kvs.length) st
    | _ => .bad
  | [.tup xs] => .ok (.int xs.length) st
  | [.rol xs] => .ok (.int xs.length) st
  | _ => .bad
def fGcd (as : List A) (st : Sto) : Rs A := match as with
  | [.int a, .int b] => .ok (.int ((Nat.gcd a.natAbs b.natAbs : Nat) : Int)) st
  | _ => .bad
def fMax (as : List A) (st : Sto) : Rs A := match as with
  | [.int i, .int j] => .ok (.int (if j > i then j else i)) st
  | [o] => match (listOf o st).bind intsOf with
    | some ns => match ns.max? with
      | some x => .ok (.int x) st
      | none => .bad
    | none => .bad
  | _ => .bad
def fMin (as : List A) (st : Sto) : Rs A := match as with
  | [.int i, .int j] => .ok (.int (if j < i then j else i)) st
  | [o] => match (listOf o st).bind intsOf with
    | some ns => match ns.min? with
      | some x => .ok (.int x) st
      | none => .bad
    | none => .bad
  | _ => .bad
def fSum (as : List A) (st : Sto) : Rs A := match as with
  | [o] => match (listOf o st).bind intsOf with
    | some ns => .ok (.int ns.sum) st
    | none => .bad
  | _ => .bad
section
variable {K : PySem.W.Frag}
theorem c_abs : CallS K fAbs (fun xs H Q => ∃ i, xs = [.int i] ∧ Q (.int (if i < 0 then -i else i)) H) := fun m H st as xs R va => by
  unfold fAbs
  split
  · obtain ⟨v, rfl, r⟩ := va.one_inv
    cases r
    exact fun Q q => ⟨_, rfl, q H m _ (Post.refl R) (.int _)⟩
  · trivial
theorem c_int : CallS K fIntC (fun xs H Q => (∃ i, xs = [.int i] ∧ Q (.int i) H) ∨ ∃ k, xs = [.bl k] ∧ Q (.int (if k then 1 else 0)) H) := fun m H st as xs R va => by
  unfold fIntC
  split
  · obtain ⟨v, rfl, r⟩ := va.one_inv
    cases r
    exact fun Q q => .inl ⟨_, rfl, q H m _ (Post.refl R) (.int _)⟩
  · obtain ⟨v, rfl, r⟩ := va.one_inv
    cases r
    exact fun Q q => .inr ⟨_, rfl, q H m _ (Post.refl R) (.int _)⟩
  · trivial
abbrev rLenA (K : PySem.W.Frag) : List V → Hp → VK → Prop := fun xs H Q => (∃ x n, xs = [x] ∧ LenV K x H n ∧ Q (.int n) H) ∨ ∃ a kvs, xs = [V.ref a] ∧ H a = some (.dK kvs) ∧ Q (.int kvs.length) H
theorem o_len {X : Cx} : CallR X (.builtin "len") (rLenA X.K) := call_len.or call_lenD
theorem c_len : CallS K fLen (rLenA K) := fun m H st as xs R va => by
  unfold fLen
  split
  · split
    · rename_i h
      obtain ⟨v, rfl, r⟩ := va.one_inv
      cases r
      exact fun Q q => .inl ⟨_, _, rfl, ⟨lenOk.le h, rfl⟩, q H m _ (Post.refl R) (.int _)⟩
    · trivial
  · rename_i l
    obtain ⟨v, rfl, r⟩ := va.one_inv
    cases r with
    | @ref _ p hl =>
    split
    · rename_i ys e
      obtain ⟨vs, e1, hv⟩ := R.lstAt e hl
      refine fun Q q => .inl ⟨_, ys.length, rfl, .inl ⟨vs, .of e1, hv.length⟩, q H m _ (Post.refl R) (.int _)⟩
    · rename_i kvs e
      obtain ⟨ws, e1, h1, h2⟩ := R.obj _ _ _ hl e
      refine fun Q q => .inr ⟨p, ws, rfl, e1, ?_⟩
      have : ws.length = kvs.length := by simpa using (congrArg List.length h1).symm
      rw [this]
      exact q H m _ (Post.refl R) (.int _)
    · trivial
  · obtain ⟨v, rfl, r⟩ := va.one_inv
    cases r with
    | tup hs hv =>
    exact fun Q q => .inl ⟨_, _, rfl, .inr ⟨_, hs, hv.length⟩, q H m _ (Post.refl R) (.int _)⟩
  · obtain ⟨v, rfl, r⟩ := va.one_inv
    cases r with
    | rol hs hv =>
    exact fun Q q => .inl ⟨_, _, rfl, .inl ⟨_, hs.sq, hv.length⟩, q H m _ (Post.refl R) (.int _)⟩
  · trivial
theorem c_gcd : CallS K fGcd rGcd := fun m H st as xs R va => by
  unfold fGcd
  split
  · obtain ⟨v, w, rfl, r, r2⟩ := va.two_inv
    cases r
    cases r2
    exact fun Q q => ⟨_, _, rfl, q H m _ (Post.refl R) (.int _)⟩
  · trivial
abbrev rMaxA (K : PySem.W.Frag) : List V → Hp → VK → Prop := fun xs H Q => rMax K xs H Q ∨ ∃ i j, xs = [.int i, .int j] ∧ Q (.int (if j > i then j else i)) H
abbrev rMinA (K : PySem.W.Frag) : List V → Hp → VK → Prop := fun xs H Q => rMin K xs H Q ∨ ∃ i j, xs = [.int i, .int j] ∧ Q (.int (if j < i then j else i)) H
theorem o_max {X : Cx} (hc : X.calm = true) : CallR X (.builtin "max") (rMaxA X.K) := (cr_max hc).or (call_max2 hc)
theorem o_min {X : Cx} (hc : X.calm = true) : CallR X (.builtin "min") (rMinA X.K) := (cr_min hc).or (call_min2 hc)
theorem ints_of {m : List Addr} {H : Hp} {st : Sto} {o : A} {x : V} {ns : List Int} (R : Rel K m H st) (va : VR K m H o x) (h : (listOf o st).bind intsOf = some ns) : ∃ a, x = .ref a ∧ SqL K H a (ns.map V.int) := by
  obtain ⟨xs, e1, e2⟩ := Option.bind_eq_some_iff.mp h
  obtain ⟨a, vs, rfl, hs, hv⟩ := list_at R va e1
  rw [ints_at hv e2] at hs
  exact ⟨a, rfl, hs⟩
theorem c_max : CallS K fMax (rMaxA K) := fun m H st as xs R va => by
  unfold fMax
  split
  · obtain ⟨v, w, rfl, r, r2⟩ := va.two_inv
    cases r
    cases r2
    exact fun Q q => .inr ⟨_, _, rfl, q H m _ (Post.refl R) (.int _)⟩
  · obtain ⟨v, rfl, r⟩ := va.one_inv
    split
    · rename_i ns e
      obtain ⟨a, rfl, hs⟩ := ints_of R r e
      split
      · rename_i z hz
        obtain ⟨h1, h2⟩ := List.max?_eq_some_iff.mp hz
        refine fun Q q => .inl ⟨a, ns, rfl, hs, List.length_pos_of_mem h1, fun y hy hle => ?_⟩
        have : y = z := by have := h2 y hy; have := hle z h1; omega
        rw [this]
        exact q H m _ (Post.refl R) (.int _)
      · trivial
    · trivial
  · trivial
theorem c_min : CallS K fMin (rMinA K) := fun m H st as xs R va => by
  unfold fMin
  split
  · obtain ⟨v, w, rfl, r, r2⟩ := va.two_inv
    cases r
    cases r2
    exact fun Q q => .inr ⟨_, _, rfl, q H m _ (Post.refl R) (.int _)⟩
  · obtain ⟨v, rfl, r⟩ := va.one_inv
    split
    · rename_i ns e
      obtain ⟨a, rfl, hs⟩ := ints_of R r e
      split
      · rename_i z hz
        obtain ⟨h1, h2⟩ := List.min?_eq_some_iff.mp hz
        refine fun Q q => .inl ⟨a, ns, rfl, hs, List.length_pos_of_mem h1, fun y hy hle => ?_⟩
        have : y = z := by have := h2 y hy; have := hle z h1; omega
        rw [this]
        exact q H m _ (Post.refl R) (.int _)
      · trivial
    · trivial
  · trivial
theorem c_sum : CallS K fSum (rSum K) := fun m H st as xs R va => by
  unfold fSum
  split
  · obtain ⟨v, rfl, r⟩ := va.one_inv
    split
    · rename_i ns e
      obtain ⟨a, rfl, hs⟩ := ints_of R r e
      exact fun Q q => ⟨a, ns, rfl, hs, q H m _ (Post.refl R) (.int _)⟩
    · trivial
  · trivial
end

/-! ### isinstance -/
def tyOfA (a : A) (st : Sto) : Option String := match a with
  | .non => some "NoneType"
  | .bl _ => some "bool"
  | .int _ => some "int"
  | .str _ => some "str"
  | .tup _ => some "tuple"
  | .rol _ => some "list"
  | .ref l => match st[l]? with
    | some (.lst _) => some "list"
    | some (.dct _) => some "dict"
    | some (.fdc _) => some "dict"
    | none => none
def tyNames : List String := ["NoneType", "bool", "int", "str", "tuple", "list", "dict"]
def isTy (t T : String) : Bool := decide (t = T) || (decide (t = "bool") && decide (T = "int"))
theorem isTy_ok : ∀ t ∈ tyNames, ∀ T ∈ ["bool", "int", "str", "tuple", "list", "dict"], kitB t T = some (isTy t T) := by decide +kernel
def fIsi (Ts : List String) (a : A) (st : Sto) : Rs A := match tyOfA a st with
  | some t => .ok (.bl (Ts.any fun T => isTy t T)) st
  | none => .bad
theorem tyOf_ok {K : PySem.W.Frag} {m : List Addr} {H : Hp} {st : Sto} {a : A} {x : V} {t : String} (R : Rel K m H st) (va : VR K m H a x) (h : tyOfA a st = some t) : TyX K H x (.type t) ∧ t ∈ tyNames := by
  cases va with
  | non => cases h; exact ⟨.base .non, by decide⟩
  | bl b => cases h; exact ⟨.base (.bl b), by decide⟩
  | int i => cases h; exact ⟨.base (.int i), by decide⟩
  | str z => cases h; exact ⟨.base (.str z), by decide⟩
  | tup hs hv =>
    cases h
    refine ⟨?_, by decide⟩
    rcases hs with (hs | ⟨o, hs⟩) | ⟨o, its, n, h1, h2, _⟩
    · exact .base (.tup hs)
    · exact .fTuple hs
    · exact .kTuple h1 h2
  | rol hs hv =>
    cases h
    refine ⟨?_, by decide⟩
    rcases hs with ⟨o, hs⟩ | ⟨o, its, n, h1, h2, _⟩
    · exact .base (.frz hs)
    · exact .kList h1 h2
  | @ref l p hl =>
    obtain ⟨ob, ho, q⟩ := R.has hl
    unfold tyOfA at h
    dsimp only at h
    rw [ho] at h
    cases ob with
    | lst _ =>
      cases h
      obtain ⟨vs, e, r⟩ := q
      exact ⟨.base (.lst e), by decide⟩
    | dct kvs' =>
      cases h
      obtain ⟨vs, e, r⟩ := q
      exact ⟨.base (.dK e), by decide⟩
    | fdc kvs' =>
      cases h
      obtain ⟨od, vs, e, r⟩ := q
      exact ⟨.fDict e, by decide⟩
def tTys (Ts : List String) : TA := fun _ H Q => Q (Ts.map V.ty) H
section
variable {X : Cx} {cx : Str → Option Addr} {γ : Option Xg} {W : WX} {C : CallT} {p pos pT : Pos} {e : Expr} {te : E} {x : Str}
theorem pe_tyName {T : String} (hm : X.mg x = none) (hg : Gl X x := by rfl) (hv : bootBuiltins x = some (.type T) := by decide +kernel) (hn : x ≠ "__name__" := by decide) (hdb : (x == ("__debug__" : Str)) = false := by decide) : PE X (.Name x pT) (tC (.ty T)) := pe_bltn hg hm hv rfl hn hdb
theorem pty_nil : PA X [] (tTys []) := pa_nil.weak fun σ H Q q => q
theorem pty_cons {T : String} {Ts : List String} {es : List Expr} (ha : PE X e (tC (.ty T))) (hr : PA X es (tTys Ts)) (hs : starEach (e :: es) X.env = (false, eval e X.env) :: starEach es X.env := by rfl) : PA X (e :: es) (tTys (T :: Ts)) :=
  (pa_cons ha hr hs).weak fun σ H Q q => q
theorem kit_any {K : PySem.W.Frag} {t : String} (ht : t ∈ tyNames) : ∀ {Ts : List String}, (∀ T ∈ Ts, T ∈ ["bool", "int", "str", "tuple", "list", "dict"]) → PySem.W.kitAny K (.type t) (Ts.map Value.type) = some (Ts.any fun T => isTy t T)
  | [], _ => rfl
  | T :: Ts, h => by
    have h1 : PySem.W.kitOne K (.type t) (.type T) = some (isTy t T) := kit_ty (isTy_ok t ht T (h T (by simp)))
    have h2 := kit_any (K := K) ht (Ts := Ts) fun T hT => h T (by simp [hT])
    rw [List.map_cons, PySem.W.kitAny, h1, List.any_cons]
    cases isTy t T with
    | true => rfl
    | false =>
      rw [Bool.false_or]
      exact h2
theorem paired_ty : ∀ Ts : List String, Paired ClsV (Ts.map V.ty) (Ts.map Value.type)
  | [] => .nil
  | T :: Ts => .cons (.ty T) (paired_ty Ts)
theorem px_isi {T : String} {eT : Expr} (he : PX X cx γ W C e te) (hT : PE X eT (tC (.ty T))) (hm : X.mg "isinstance" = none) (hTs : T ∈ ["bool", "int", "str", "tuple", "list", "dict"] := by decide) (hg : Gl X "isinstance" := by rfl)
    (hs1 : starEach [e, eT] X.env = (false, eval e X.env) :: starEach [eT] X.env := by rfl) (hs2 : starEach [eT] X.env = (false, eval eT X.env) :: starEach [] X.env := by rfl) (hpl : (backTo pos (starEach [eT] X.env)).any (·.1) = false := by rfl) :
    PX X cx γ W C (.Call (.Name "isinstance" p) [e, eT] [] pos) (.p1 (fIsi [T]) te) :=
  (pe_callB call_isi hg hm (by decide +kernel) (pa_cons he (pa_cons hT pa_nil hs2) hs1) (by decide) (by decide) hs1 hpl).weak fun σ H Q ⟨m, env, st, ra, h⟩ => by
    rw [evE] at h
    refine ⟨m, env, st, ra, h.bind.mono fun a m1 H1 st1 p1 q1 v vv => ?_⟩
    unfold fIsi at q1
    split at q1
    · rename_i t ht
      obtain ⟨h1, h2⟩ := tyOf_ok p1.rel vv ht
      refine ⟨v, .ty T, .type t, .type T, isTy t T, rfl, .ty T, h1, kit_ty (isTy_ok t h2 T hTs), ?_⟩
      have := q1.now p1.rel (.bl (isTy t T)) (by simp only [List.any_cons, List.any_nil, Bool.or_false]; exact .bl _)
      exact this
    · exact q1.elim
theorem px_isiT {Ts : List String} {es : List Expr} {k : Nat} (he : PX X cx γ W C e te) (hT : PA X es (tTys Ts)) (hm : X.mg "isinstance" = none) (hTs : ∀ T ∈ Ts, T ∈ ["bool", "int", "str", "tuple", "list", "dict"] := by decide) (hlen : Ts.length ≤ 10 := by decide) (hg : Gl X "isinstance" := by rfl)
    (hs1 : starEach [e, .Tuple es k pT] X.env = (false, eval e X.env) :: starEach [.Tuple es k pT] X.env := by rfl) (hs2 : starEach [.Tuple es k pT] X.env = (false, eval (.Tuple es k pT) X.env) :: starEach [] X.env := by rfl) (hpl : (backTo pos (starEach [.Tuple es k pT] X.env)).any (·.1) = false := by rfl) :
    PX X cx γ W C (.Call (.Name "isinstance" p) [e, .Tuple es k pT] [] pos) (.p1 (fIsi Ts) te) :=
  (pe_callB call_isiT hg hm (by decide +kernel) (pa_cons he (pa_cons (pe_tup hT) pa_nil hs2) hs1) (by decide) (by decide) hs1 hpl).weak fun σ H Q ⟨m, env, st, ra, h⟩ => by
    rw [evE] at h
    refine ⟨m, env, st, ra, h.bind.mono fun a m1 H1 st1 p1 q1 v vv => ?_⟩
    unfold fIsi at q1
    split at q1
    · rename_i t ht
      refine ⟨by rw [List.length_map, sizeLine_eq]; omega, fun p hp => ?_⟩
      have P := Post.lay p1.rel (o := .tup (Ts.map V.ty)) hp
      obtain ⟨h1, h2⟩ := tyOf_ok P.rel (P.vr p1.rel vv) ht
      have pr : Paired ClsV (Ts.map V.ty) (Ts.map Value.type) := paired_ty Ts
      exact ⟨v, p, Ts.map V.ty, .type t, Ts.map Value.type, _, rfl, upd_same, pr, h1, kit_any h2 hTs, q1 _ _ P _ (.bl _)⟩
    · exact q1.elim
end

/-! ### {}, *xs, list(range(..)), x.append(y) -/
def fDNew (as : List A) (st : Sto) : Rs A := match as with
  | [] => .ok (.ref st.length) (st ++ [.dct []])
  | _ => .bad
def fRngL (as : List A) (st : Sto) : Rs A := match as with
  | [.int i, .int j] => if -(2 ^ 62) ≤ i ∧ i < 2 ^ 62 ∧ -(2 ^ 62) ≤ j ∧ j < 2 ^ 62 ∧ lenOk (j - i).toNat = true then .ok (.ref st.length) (st ++ [.lst ((List.range (j - i).toNat).map fun k => A.int (i + (k : Nat)))]) else .bad
  | _ => .bad
def fIsL (a : A) (st : Sto) : Rs A := match a with
  | .ref l => match st[l]? with
    | some (.lst _) => .ok (.ref l) st
    | _ => .bad
  | _ => .bad
theorem mut_lst {K : PySem.W.Frag} {m : List Addr} {H : Hp} {st : Sto} {l : Nat} {p : Addr} {vs vs' : List V} {xs' : List A} (R : Rel K m H st) (hl : m[l]? = some p) (e : H p = some (.lst vs)) (hv : VRs K m H xs' vs') : Post K m H m (upd H p (.lst vs')) (st.set l (.lst xs')) := by
  refine Post.mut R hl ⟨_, upd_same, ?_⟩ fun ob u z => by rw [e] at z; cases z
  have hst : Stb K H (upd H p (.lst vs')) := by
    constructor
    · intro a ys hs
      rcases hs with (hs | ⟨o, hs⟩) | hs
      · refine .inl (.inl ?_)
        rw [upd_ne (fun w => by rw [w, e] at hs; cases hs)]
        exact hs
      · refine .inl (.inr ⟨o, ?_⟩)
        rw [upd_ne (fun w => by rw [w, e] at hs; cases hs)]
        exact hs
      · exact .inr hs
    · intro a ys hs
      rcases hs with ⟨o, hs⟩ | hs
      · refine .inl ⟨o, ?_⟩
        rw [upd_ne (fun w => by rw [w, e] at hs; cases hs)]
        exact hs
      · exact .inr hs
  exact VRs.mono hst (fun _ _ h => h) hv
def fApp (a b : A) (st : Sto) : Rs A := match a with
  | .ref l => match st[l]? with
    | some (.lst xs) => if lenOk (xs.length + 1) then .ok .non (st.set l (.lst (xs ++ [b]))) else .bad
    | _ => .bad
  | _ => .bad
section
variable {X : Cx} {cx : Str → Option Addr} {γ : Option Xg} {W : WX} {C : CallT} {p pos pT : Pos} {e : Expr} {te : E} {x : Str}
theorem px_dnew : PX X cx γ W C (.Dict [] [] pos) (.pn fDNew .nil) := pe_dnewK.weak fun σ H Q ⟨m, env, st, ra, h⟩ => by
  rw [evE, evEs] at h
  intro p hp
  have P : Post X.K m H (m ++ [p]) (upd H p (.dK [])) (st ++ [.dct []]) := Post.new ra.rel hp ⟨[], upd_same, rfl, .nil⟩
  have h' : Out X.K cx W σ m H (.ok (.ref st.length) (st ++ [.dct []])) (VQ X.K Q) := h
  exact h' _ _ P _ (.ref (new_at ra.rel))
theorem pxa_star {es : List Expr} {t : E} {ts : Es} (ha : PX X cx γ W C e t) (hr : PXA X cx γ W C es ts) (hs : starEach (.Starred e p :: es) X.env = (true, eval e X.env) :: starEach es X.env := by rfl) : PXA X cx γ W C (.Starred e p :: es) (.star t ts) :=
  (StX.pa_star ha hr hs).weak fun σ H Q ⟨m, env, st, ra, h⟩ => by
    rw [evEs] at h
    refine ⟨m, env, st, ra, h.bind.mono fun x m1 H1 st1 p1 q1 v vv => ?_⟩
    cases hi : itemsOf x st1 with
    | some ys =>
      obtain ⟨a, vs, rfl, hsq, hv⟩ := items_at p1.rel vv hi
      rw [hi] at q1
      refine ⟨a, vs, rfl, hsq, m1, env, st1, ra.post p1, ?_⟩
      refine Out.mono (Out.bind q1) fun xs m2 H2 st2 p2 q2 ws vws => ?_
      exact q2.now p2.rel _ ((p2.vrs p1.rel hv).append vws)
    | none =>
      rw [hi] at q1
      exact q1.elim
theorem px_listRg2 {a b : Expr} {p2 pos2 : Pos} (hc : X.calm = true) (hm : X.mg "list" = none) (hm2 : X.mg "range" = none) (ha : PX X cx γ W C a te) {tb : E} (hb : PX X cx γ W C b tb) (hg : Gl X "list" := by rfl) (hg2 : Gl X "range" := by rfl)
    (na : starEach [a, b] X.env = (false, eval a X.env) :: starEach [b] X.env := by rfl) (nb : starEach [b] X.env = (false, eval b X.env) :: starEach [] X.env := by rfl) (hp : (backTo pos2 (starEach [b] X.env)).any (·.1) = false := by rfl)
    (nc : starEach [.Call (.Name "range" p2) [a, b] [] pos2] X.env = (false, eval (.Call (.Name "range" p2) [a, b] [] pos2) X.env) :: starEach [] X.env := by rfl) :
    PX X cx γ W C (.Call (.Name "list" p) [.Call (.Name "range" p2) [a, b] [] pos2] [] pos) (.pn fRngL (.cons te (.cons tb .nil))) :=
  (pe_listRg hc hg hm (prg_2 hg2 hm2 ha hb na nb hp) nc).weak fun σ H Q ⟨m, env, st, ra, h⟩ => by
    rw [evE, evEs, Rs.bind_assoc] at h
    refine ⟨m, env, st, ra, h.bind.mono fun x m1 H1 st1 p1 q1 v vv => ?_⟩
    rw [evEs, Rs.bind_assoc, Rs.bind_assoc] at q1
    refine ⟨m1, env, st1, ra.post p1, q1.bind.mono fun y m2 H2 st2 p2 q2 w vw => ?_⟩
    rw [evEs] at q2
    have q3 : Out X.K cx W σ m2 H2 (fRngL [x, y] st2) (VQ X.K Q) := q2
    unfold fRngL at q3
    split at q3
    · rename_i i j heq
      cases heq
      split at q3
      · rename_i hb
        cases vv
        cases vw
        refine ⟨i, j, rfl, rfl, ⟨hb.1, hb.2.1, hb.2.2.1, hb.2.2.2.1, by have := of_decide_eq_true hb.2.2.2.2; omega⟩, fun q hq => ?_⟩
        refine new_lst p2.rel (xs := (List.range (j - i).toNat).map fun k => A.int (i + (k : Nat))) ?_ hq fun H' m' v P vr => q3 H' m' P v vr
        unfold rgV
        generalize List.range (j - i).toNat = l
        induction l with
        | nil => exact .nil
        | cons k l ih => exact .cons (.int _) ih
      · exact q3.elim
    · exact q3.elim
theorem px_append {o : Expr} {to : E} {apos : Pos} (ho : PX X cx γ W C o to) (ha : PX X cx γ W C e te)
    (hbase : attributeBase o "append" X.env (eval o X.env) = eval o X.env := by rfl)
    (hfew : ((backTo pos (starEach [e] X.env)).all (fun x => !x.1) && (backToKw pos (keywordEach [] X.env)).all (fun x => x.1.isSome)
      && decide (([e] : List Expr).length + ([] : List Keyword).length + (if ([] : List Keyword).isEmpty then 0 else 1) < 30)) = true := by rfl)
    (hline : (apos.endLine == pos.line) = true := by rfl) (hs : starEach [e] X.env = (false, eval e X.env) :: starEach [] X.env := by rfl) (hplain : (backTo pos (starEach [] X.env)).any (·.1) = false := by rfl) :
    PX X cx γ W C (.Call (.Attribute o "append" apos) [e] [] pos) (.p2 fApp (.p1 fIsL to) te) :=
  (pe_bm PySem.F.plainAttrs_list PySem.F.slot_list_append PySem.F.type_list_append mt_append ho (pa_cons ha pa_nil hs) hbase hfew hline hs hplain).weak fun σ H Q ⟨m, env, st, ra, h⟩ => by
    rw [evE, evE, Rs.bind_assoc] at h
    refine ⟨m, env, st, ra, h.bind.mono fun a m1 H1 st1 p1 q1 v vv => ?_⟩
    cases vv with
    | @ref l p hl =>
      obtain ⟨ob, ho, hob⟩ := p1.rel.has hl
      unfold fIsL at q1
      dsimp only at q1
      rw [ho] at q1
      cases ob with
      | lst ys =>
        obtain ⟨ws, e1, hws⟩ := hob
        refine ⟨.inl ⟨rfl, ws, .of e1⟩, m1, env, st1, ra.post p1, ?_⟩
        have q2 : Out X.K cx W σ m1 H1 ((evE C te env st1).bind fun y st2 => fApp (.ref l) y st2) (VQ X.K Q) := q1
        refine q2.bind.mono fun y m2 H2 st2 p2 q3 w vw => ?_
        have hl2 := p2.get _ _ hl
        obtain ⟨ob2, ho2, hob2⟩ := p2.rel.has hl2
        unfold fApp at q3
        dsimp only at q3
        rw [ho2] at q3
        cases ob2 with
        | lst zs =>
          obtain ⟨us, e2, hus⟩ := hob2
          dsimp only at q3
          split at q3
          · rename_i hlen
            refine ⟨p, us, w, rfl, rfl, e2, ?_, ?_⟩
            · have := lenOk.le hlen
              rw [← hus.length]
              omega
            · exact q3 _ _ (mut_lst p2.rel hl2 e2 (hus.append (.cons vw .nil))) _ .non
          · exact q3.elim
        | dct _ => exact q3.elim
        | fdc _ => exact q3.elim
      | dct _ => exact q1.elim
      | fdc _ => exact q1.elim
    | _ => exact q1.elim

/-! ### a dict that is walked -/
def itKeys (as : List A) (st : Sto) : Rs MP.It := match as with
  | [.ref l] => match st[l]? with
    | some (.fdc _) => .ok (.keys l) st
    | _ => .bad
  | _ => .bad
theorem itr_keys {K : PySem.W.Frag} {m : List Addr} {H0 : Hp} {l : Nat} {a : Addr} {od : Obj} {ws : List (Key × V)} (ha : m[l]? = some a) (h0 : H0 a = some (.frz od (.dK ws))) : ItR K m H0 (.keys l) (Itk a od ws) := by
  intro m' H st i s fz e R
  unfold It.at
  have ha' := e l a ha
  have hH := fz a od _ h0
  obtain ⟨o, ho, q⟩ := R.has ha'
  rw [ho]
  cases o with
  | dct _ => trivial
  | lst _ => trivial
  | fdc kvs =>
    obtain ⟨od', ws', e1, e2, e3⟩ := q
    rw [hH] at e1
    cases e1
    have hl : kvs.length = ws.length := by simpa using congrArg List.length e2
    dsimp only
    cases hx : kvs[i]? with
    | none =>
      refine ⟨hH, ?_⟩
      rw [← hl]
      exact List.getElem?_eq_none_iff.mp hx
    | some x =>
      have hi : i < ws.length := by
        rw [← hl]
        exact (List.getElem?_eq_some_iff.mp hx).1
      refine ⟨⟨hH, hi⟩, fun w H' ⟨e1, k, v, e4, e5⟩ => ?_⟩
      subst e1
      refine ⟨Post.refl R, ?_⟩
      have h1 : (kvs.map (·.1))[i]? = some x.1 := by rw [List.getElem?_map, hx]; rfl
      rw [e2, List.getElem?_map, e4] at h1
      have h2 : k = x.1 := by simpa using h1
      subst h2
      rw [e5]
      dsimp only
      cases x.1 with
      | inl i => exact .int i
      | inr z => exact .str z
theorem xi_keys {tg : Expr} (he : PX X cx none W C e te) : PXI X cx W C tg e itKeys (.cons te .nil) :=
  (pi_keys he).weak fun σ H R ⟨m, env, st, Rl, er, h⟩ => by
    rw [evEs, Rs.bind_assoc] at h
    refine ⟨m, env, st, ⟨Rl, er.er⟩, h.bind.mono fun a m1 H1 st1 p1 q1 v vv => ?_⟩
    rw [evEs] at q1
    have q2 : Out X.K cx W σ m1 H1 (itKeys [a] st1) fun it m' H' _ => ∀ J, ItR X.K m' H' it J → R J H' := q1
    cases vv with
    | @ref l p hl =>
      obtain ⟨ob, ho, hob⟩ := p1.rel.has hl
      unfold itKeys at q2
      simp only [ho] at q2
      cases ob with
      | lst _ => exact q2.elim
      | dct _ => exact q2.elim
      | fdc kvs =>
        obtain ⟨od, ws, e1, e2, e3⟩ := hob
        exact ⟨p, od, rfl, .inl ⟨ws, e1, q2.now p1.rel _ (itr_keys hl e1)⟩⟩
    | _ => exact q2.elim
theorem px_lock (i : Nat) (he : PX X cx γ W C e te) : PX X cx γ W C e (.lock i te) := (pe_lock he).weak fun σ H Q ⟨m, env, st, ra, h⟩ => by
  rw [evE] at h
  split at h
  · rename_i l hi
    split at h
    · rename_i kvs hk
      obtain ⟨p, hl, ws, e1, e2, e3⟩ := ra.rel.at hk
      refine ⟨p, _, e1, trivial, fun od => ?_⟩
      have hfr : ∀ (od : Obj) a o, H a = some o → a ≠ p → upd H p (.frz od (.dK ws)) a = some o := fun od a o h1 h2 => by rw [upd_ne h2]; exact h1
      have P0 : Post X.K m H m (upd H p (.frz od (.dK ws))) (st.set l (.fdc kvs)) := by
        refine Post.mut ra.rel hl ⟨od, ws, upd_same, e2, ?_⟩ fun ob u z => by rw [e1] at z; cases z
        have hst : Stb X.K H (upd H p (.frz od (.dK ws))) := by
          constructor
          · intro a ys hs
            rcases hs with (hs | ⟨o, hs⟩) | hs
            · exact .inl (.inl (hfr od _ _ hs fun w => by rw [w, e1] at hs; cases hs))
            · exact .inl (.inr ⟨o, hfr od _ _ hs fun w => by rw [w, e1] at hs; cases hs⟩)
            · exact .inr hs
          · intro a ys hs
            rcases hs with ⟨o, hs⟩ | hs
            · exact .inl ⟨o, hfr od _ _ hs fun w => by rw [w, e1] at hs; cases hs⟩
            · exact .inr hs
        exact VRs.mono hst (fun _ _ h => h) e3
      refine ⟨m, env, _, ra.post P0, ?_⟩
      generalize evE C te env (st.set l (.fdc kvs)) = res at h ⊢
      cases res with
      | bad => exact h
      | exc c fs st2 => exact fun cls d H' m' p x => h cls d H' m' (P0.trans p) x
      | ok a st2 =>
      intro H2 m2 p2 v vv
      have hf := p2.fz p od _ upd_same
      refine ⟨hf, ?_⟩
      have q2 : Out X.K cx W σ m H (match st2[l]? with
        | some (.fdc _) => .ok a (st2.set l (.dct kvs))
        | _ => .bad) (VQ X.K Q) := h
      split at q2
      · rename_i kv2 hk2
        have hl2 := p2.get _ _ hl
        have hst : Stb X.K H2 (upd H2 p (.dK ws)) := by
          constructor
          · intro a ys hs
            rcases hs with (hs | ⟨o, hs⟩) | hs
            · refine .inl (.inl ?_)
              rw [upd_ne (fun w => by rw [w, hf] at hs; cases hs)]
              exact hs
            · refine .inl (.inr ⟨o, ?_⟩)
              rw [upd_ne (fun w => by rw [w, hf] at hs; cases hs)]
              exact hs
            · exact .inr hs
          · intro a ys hs
            rcases hs with ⟨o, hs⟩ | hs
            · refine .inl ⟨o, ?_⟩
              rw [upd_ne (fun w => by rw [w, hf] at hs; cases hs)]
              exact hs
            · exact .inr hs
        have R2 := p2.rel
        have P : Post X.K m H m2 (upd H2 p (.dK ws)) (st2.set l (.dct kvs)) := by
          have P2 := P0.trans p2
          have hpm : p ∈ m := List.mem_of_getElem? hl
          refine ⟨P2.ex, fun a o h1 h2 => ?_, fun a o u h1 => ?_, P2.nw, R2.inj, by rw [List.length_set]; exact R2.len, fun i2 a u h1 h2 => ?_⟩
          · rw [upd_ne (fun w => h2 (by rw [w]; exact hpm))]
            exact P2.fr a o h1 h2
          · have hap : a ≠ p := fun w => by rw [w, e1] at h1; cases h1
            rw [upd_ne hap]
            exact P2.fz a o u h1
          · by_cases hi2 : i2 = l
            · subst hi2
              rw [hl2] at h1
              cases h1
              have hlt : i2 < st2.length := by
                rw [← R2.len]
                exact (List.getElem?_eq_some_iff.mp hl2).1
              rw [List.getElem?_set_self hlt] at h2
              cases h2
              refine ⟨ws, upd_same, e2, ?_⟩
              exact VRs.mono hst (fun _ _ h => h) (P2.vrs ra.rel e3)
            · rw [List.getElem?_set_ne (Ne.symm hi2)] at h2
              refine (R2.obj i2 a u h1 h2).mono hst (fun _ _ h => h) (upd_ne fun z => hi2 ?_)
              exact R2.inj i2 l p (z ▸ h1) hl2
        have vv2 : VR X.K m2 (upd H2 p (.dK ws)) a v := VR.mono hst (fun _ _ h => h) vv
        exact q2 _ _ P v vv2
      · exact q2.elim
    · exact h.elim
  · exact h.elim
end
end MP

/-! A module's constants, own error classes, the law's end (own work). -/
namespace MP
open PySem PySem.Spec PyProof.Rows L2

/-- a module's constant -/
structure KC (K : PySem.W.Frag) (mg : Str → Option Value) (x : Str) (a : A) : Prop where
  ex : ∃ v u, mg x = some u ∧ RelV v u ∧ ∀ m H, VR K m H a v
theorem px_kc {X : Cx} {cx : Str → Option Addr} {γ : Option Xg} {W : WX} {C : CallT} {x : Str} {a : A} {pos : Pos} (h : KC X.K X.mg x a) (hg : Gl X x := by rfl) (hd : (x == ("__debug__" : Str)) = false := by decide) : PX X cx γ W C (.Name x pos) (.c a) := by
  obtain ⟨v, u, h1, h2, h3⟩ := h.ex
  exact px_glob h3 h2 h1 hg hd
section
variable {K : PySem.W.Frag} {mg : Str → Option Value} {x : Str} {h : Heap}
theorem kc_int {i : Int} {t : Tok} (e : mg x = some (.int i t)) : KC K mg x (.int i) := ⟨.int i, _, e, ⟨t, rfl⟩, fun _ _ => .int i⟩
theorem kc_str {i : Str} {t : Tok} (e : mg x = some (.str i t)) : KC K mg x (.str i) := ⟨.str i, _, e, ⟨t, rfl⟩, fun _ _ => .str i⟩
theorem kc_tup {a : Addr} {od : Option Addr} {its : Array Value} {n : Nat} {sl : Array (Option Value)} {xs : List A} {vs : List V} (e : mg x = some (.ref a)) (l : K.lookup a = some ⟨.type "tuple", od, .seq its n, sl⟩) (hs : its.size ≤ 1000000) (hv : Vals vs its.toList) (hx : ∀ m H, VRs K m H xs vs) : KC K mg x (.tup xs) :=
  ⟨.ref a, _, e, rfl, fun m H => .tup (.inr ⟨_, its, n, l, rfl, rfl, Nat.le_trans hs (by rw [sizeLine_eq]; decide), hv⟩) (hx m H)⟩
theorem kc_lst {a : Addr} {its : Array Value} {n : Nat} {sl : Array (Option Value)} {xs : List A} {vs : List V} (e : mg x = some (.ref a)) (l : K.lookup a = some ⟨.type "list", none, .seq its n, sl⟩) (hs : its.size ≤ 1000000) (hv : Vals vs its.toList) (hx : ∀ m H, VRs K m H xs vs) : KC K mg x (.rol xs) :=
  ⟨.ref a, _, e, rfl, fun m H => .rol (.inr ⟨_, its, n, l, rfl, rfl, rfl, Nat.le_trans hs (by rw [sizeLine_eq]; decide), hv⟩) (hx m H)⟩
end
/-- except T: of an error of the class S -/
theorem exm_of {K : PySem.W.Frag} {S T : Addr} {b : Bool} (h0 : PySem.W.subIn K (.ref T) (.type "BaseException") = some true) (h2 : PySem.W.isClsIn K T = true) (h3 : PySem.W.typeIn K (.ref T) = some (.type "type")) (h4 : PySem.W.subIn K (.ref S) (.ref T) = some b) :
    PySem.W.exmOne K (.ref S) (.ref T) = some b := by
  have e1 : (PySem.W.subIn K (.ref T) (.type "BaseException") == some true) = true := by rw [h0] <;> rfl
  have e2 : ((PySem.W.clsIn K T).isSome && PySem.W.typeIn K (.ref T) == some (.type "type")) = true := by
    have h2' : (PySem.W.clsIn K T).isSome = true := h2
    rw [h2', h3] <;> rfl
  show (if (PySem.W.subIn K (.ref T) (.type "BaseException") == some true) = true then (if ((PySem.W.clsIn K T).isSome && PySem.W.typeIn K (.ref T) == some (.type "type")) = true then PySem.W.subIn K (.ref S) (.ref T) else none) else none) = some b
  rw [if_pos e1, if_pos e2]
  exact h4

/-! ### the end -/
/-- the law's promise: with enough steps the small language's run says True -/
def spLaw (K : PySem.W.Frag) (f : Nat → List A → Sto → Rs A) : Sp := fun vs H Q _ => ∃ (a : Addr) (ns : List Int) (fu : Nat) (st' : Sto), vs = [.ref a] ∧ RoL K H a (ns.map V.int) ∧ f fu [.rol (ns.map A.int)] [] = .ok (.bl true) st' ∧ ∀ H', Q (.bl true) H'
theorem spLaw_imp {K : PySem.W.Frag} {cx : Str → Option Addr} {f : Nat → List A → Sto → Rs A} (vs : List V) (H : Hp) (Q : VK) (E : XK) (h : spLaw K f vs H Q E) : ∃ fu, spI K cx 1 (f fu) vs H Q E := by
  obtain ⟨a, ns, fu, st', rfl, hr, e, q⟩ := h
  refine ⟨fu, rfl, [], [.rol (ns.map A.int)], [], ⟨fun i j a h => by simp at h, rfl, fun l a o h => by simp at h⟩, .cons (.rol hr (VRs.of_ints ns)) .nil, ?_⟩
  rw [e]
  intro H' m' P v vr
  rw [vr.bl_inv]
  exact q H'
theorem law_sp {K : PySem.W.Frag} {f : Nat → List A → Sto → Rs A} {H : Hp} {a : Addr} {ns : List Int} (hO : Only H) (hS : SqL K H a (ns.map V.int)) (h : ∃ fu st', f fu [.rol (ns.map A.int)] [] = .ok (.bl true) st') : spLaw K f [.ref a] H (fun v _ => v = .bl true) fun _ _ _ => False := by
  obtain ⟨fu, st', e⟩ := h
  refine ⟨a, ns, fu, st', rfl, ?_, e, fun _ => rfl⟩
  rcases hS with (hS | ⟨o, hS⟩) | hS
  · rcases hO a with z | ⟨o, xs, z⟩
    · rw [z] at hS; cases hS
    · rw [z] at hS; cases hS
  · exact .inl ⟨o, hS⟩
  · exact .inr hS
theorem law_ok {P : Program} {w : World} {K : PySem.W.Frag} {mg : Str → Option Value} {base : Heap} {cx : Str → Option Addr} {k : Nat} {x : Str} {f : Addr} {fd : FuncData} {g : Nat → List A → Sto → Rs A} (F : ∀ fu, FnOk P w K mg base (L2.CX P w) k f fd [x] (spI K cx 1 (g fu))) : FnOk P w K mg base (L2.CX P w) k f fd [x] (spLaw K g) :=
  ⟨fun vs H Q E h => by
    obtain ⟨a, ns, fu, st', rfl, _⟩ := h
    rfl, fun A outer s H args us vs Q E h1 h2 h3 h4 h5 => by
    obtain ⟨fu, h6⟩ := spLaw_imp (cx := cx) vs H Q E h5
    exact (F fu).run A outer s H args us vs Q E h1 h2 h3 h4 h6⟩
theorem cx_no {P : Program} {w : World} (H : Hp) (s : Shared) (e : Value) (s' : Shared) (h : L2.CX P w [] H s (fun _ _ _ => False) e s') : False := by
  obtain ⟨_, _, _, _, _, _, _, _, _, _, _, _, z⟩ := h
  exact z
/-- a class with def __init__(self, attr): self.attr = attr -/
theorem xcls_mk {P : Program} {w : World} {K : PySem.W.Frag} {mg : Str → Option Value} {base : Heap} {cx : Str → Option Addr} {x qual attr : Str} {C fI : Addr} {fd : FuncData} {s : Stmt} {p1 p2 p3 p4 : Pos} (T : OexC K C) (iC : PySem.W.findIn K (.ref C) "__init__" = some (some (.ref fI))) (tI : PySem.W.typeIn K (.ref fI) = some (.type "function"))
    (F : Fun K "__init__" qual s fI fd) (S : FnScope ["self", attr] ["self", attr] (defScope s)) (hb : defBody s = [.Assign [.Attribute (.Name "self" p1) attr p2] (.Name attr p3) p4]) (hs1 : (defScope s).names.lookup ("self" : Str) = some NameKind.local) (hs2 : (defScope s).names.lookup attr = some NameKind.local)
    (hd : (attr == ("__debug__" : Str)) = false) (hcd : (attr == ("__classdict__" : Str)) = false) (hsw : ∀ env, swapsWith (.Name attr p3) (some (.Attribute (.Name "self" p1) attr p2)) p4.line env = pure false) (bn : Binds K fd ["self", attr] []) (hm : mg x = some (.ref C)) (no : PySem.W.findIn K (.ref C) attr = some none) (hc : cx x = some C) :
    XCls P w K mg base cx x attr C fI fd := ⟨T, iC, tI, init_ok F S hb hs1 hs2 hd hcd hsw, bn, hm, no, hc⟩
/-- the head's end -/
theorem walk_mp {l : PySem.W.OpenLaw} {n k : Nat} {q : Program} {loose : List Str} {XP : (Str → Option Value) → Heap → Prop} {YP : World → Heap → Prop} {d : DefRec} {K : Params → PySem.W.Frag} {x : Str} {g : Nat → List A → Sto → Rs A}
    (hn : l.most = some n) (hn2 : n ≤ 1000000) (hdf : d.params.defaults = []) (hr : Room k callerA)
    (hY : ∀ (w : World) (h : Heap), YP w h → (K w.params).In h)
    (main : ∀ ns : List Int, ns.length ≤ n → (∀ z ∈ ns, Builtin.Int.intBits z ≤ 1048576) → ∃ fu st', g fu [.rol (ns.map A.int)] [] = .ok (.bl true) st')
    (F : ∀ (w : World) (mg : Str → Option Value) (fa : Addr) (h : Heap), (K w.params).In h → h.Ns mainGlobals mg → mg d.name = some (.ref fa) →
      ∃ fd : FuncData, (∀ (s : Shared) (u : Value), BindsTo s fd ⟨[u], []⟩ [(x, u)]) ∧
        ∀ base : Heap, (K w.params).In base → base.Ns mainGlobals mg → FnOk l.prog w (K w.params) mg base (L2.CX l.prog w) k fa fd [x] (spLaw (K w.params) g)) :
    PySem.W.WalkO q loose XP YP l.row.toRowW d [] (fun f vs => PySem.call f vs) :=
  walk_ofB (K := K) (CX := fun w => L2.CX l.prog w) (sp := fun w => spLaw (K w.params) g) hn (Nat.le_trans hn2 (by rw [sizeLine_eq]; decide)) hdf hr hY F (fun w H a ns h1 h2 hO hS => law_sp hO hS (main ns h1 h2)) fun w H s e s' h => cx_no H s e s' h
end MP

/-! How to reckon with the small language (own work). -/
namespace MP
open PySem PySem.Spec PyProof.Rows L2
section
variable {α β : Type}
@[simp] theorem Rs.bind_ok (a : α) (st : Sto) (f : α → Sto → Rs β) : (Rs.ok a st).bind f = f a st := rfl
@[simp] theorem Rs.bind_exc (c : Str) (fs : List (Str × A)) (st : Sto) (f : α → Sto → Rs β) : (Rs.exc c fs st : Rs α).bind f = .exc c fs st := rfl
@[simp] theorem Rs.bind_bad (f : α → Sto → Rs β) : (Rs.bad : Rs α).bind f = .bad := rfl
@[simp] theorem Rs.toS_ok (a : α) (st : Sto) (env : En) (f : α → Sto → SO) : (Rs.ok a st).toS env f = f a st := rfl
@[simp] theorem Rs.toS_exc (c : Str) (fs : List (Str × A)) (st : Sto) (env : En) (f : α → Sto → SO) : (Rs.exc c fs st : Rs α).toS env f = .ex c fs env st := rfl
end
@[simp] theorem asB_ok (b : Bool) (st : Sto) : asB (.bl b) st = .ok b st := rfl
section
variable {C : CallT} {env : En} {st : Sto}
/-- the value in a slot -/
def slotR (o : Option (Option A)) (st : Sto) : Rs A := match o with
  | some (some a) => .ok a st
  | _ => .bad
@[simp] theorem slotR_some (a : A) (st : Sto) : slotR (some (some a)) st = .ok a st := rfl
@[simp] theorem evE_var (i : Nat) : evE C (.var i) env st = slotR env[i]? st := by
  rw [evE]
  unfold slotR
  rfl
@[simp] theorem evE_c (a : A) : evE C (.c a) env st = .ok a st := by rw [evE]
@[simp] theorem evE_p1 (f : A → Sto → Rs A) (a : E) : evE C (.p1 f a) env st = (evE C a env st).bind f := by rw [evE]
@[simp] theorem evE_p2 (f : A → A → Sto → Rs A) (a b : E) : evE C (.p2 f a b) env st = (evE C a env st).bind fun x st1 => (evE C b env st1).bind fun y st2 => f x y st2 := by rw [evE]
@[simp] theorem evE_pn (f : List A → Sto → Rs A) (es : Es) : evE C (.pn f es) env st = (evEs C es env st).bind f := by rw [evE]
@[simp] theorem evE_cond (t a b : E) : evE C (.cond t a b) env st = ((evE C t env st).bind asB).bind fun k st1 => if k then evE C a env st1 else evE C b env st1 := by rw [evE]
@[simp] theorem evE_and (a b : E) : evE C (.and_ a b) env st = ((evE C a env st).bind asB).bind fun k st1 => if k then evE C b env st1 else .ok (.bl false) st1 := by rw [evE]
@[simp] theorem evE_or (a b : E) : evE C (.or_ a b) env st = ((evE C a env st).bind asB).bind fun k st1 => if k then .ok (.bl true) st1 else evE C b env st1 := by rw [evE]
@[simp] theorem evE_chain (f g : A → A → Sto → Rs A) (a b c : E) : evE C (.chain f g a b c) env st = (evE C a env st).bind fun x st1 => (evE C b env st1).bind fun y st2 => ((f x y st2).bind asB).bind fun k st3 =>
      if k then (evE C c env st3).bind fun z st4 => g y z st4 else .ok (.bl false) st3 := by rw [evE]
@[simp] theorem evE_call (f : Nat) (perm : List Nat) (es : Es) : evE C (.call f perm es) env st = (evEs C es env st).bind fun xs st1 => C f (permA perm xs) st1 := by rw [evE]
@[simp] theorem evEs_nil : evEs C .nil env st = .ok [] st := by rw [evEs]
@[simp] theorem evEs_cons (e : E) (es : Es) : evEs C (.cons e es) env st = (evE C e env st).bind fun x st1 => (evEs C es env st1).bind fun xs st2 => .ok (x :: xs) st2 := by rw [evEs]
@[simp] theorem evSs_nil : evSs C .nil env st = .nx env st := by rw [evSs]
/-- what comes behind -/
def SO.sq (r : SO) (f : En → Sto → SO) : SO := match r with
  | .nx env st => f env st
  | r => r
@[simp] theorem SO.sq_nx (env : En) (st : Sto) (f : En → Sto → SO) : (SO.nx env st).sq f = f env st := rfl
@[simp] theorem SO.sq_rt (a : A) (st : Sto) (f : En → Sto → SO) : (SO.rt a st).sq f = .rt a st := rfl
@[simp] theorem SO.sq_bk (env : En) (st : Sto) (f : En → Sto → SO) : (SO.bk env st).sq f = .bk env st := rfl
@[simp] theorem SO.sq_ct (env : En) (st : Sto) (f : En → Sto → SO) : (SO.ct env st).sq f = .ct env st := rfl
@[simp] theorem SO.sq_ex (c : Str) (fs : List (Str × A)) (env : En) (st : Sto) (f : En → Sto → SO) : (SO.ex c fs env st).sq f = .ex c fs env st := rfl
@[simp] theorem evSs_cons (s : S) (ss : Ss) : evSs C (.cons s ss) env st = (evS C s env st).sq fun env st => evSs C ss env st := by
  rw [evSs]
  unfold SO.sq
  cases evS C s env st <;> rfl
def asgT (t : T) (a : A) (env : En) (st : Sto) : SO := match t.put a env st with
  | some env' => .nx env' st
  | none => .bad
@[simp] theorem evS_asg (t : T) (e : E) : evS C (.asg t e) env st = (evE C e env st).toS env fun a st1 => asgT t a env st1 := by rw [evS]; rfl
@[simp] theorem asgT_name (i : Nat) (a : A) : asgT (.name i) a env st = .nx (env.set i (some a)) st := by unfold asgT; rw [T.put]
@[simp] theorem asgT_two (i j : Nat) (a b : A) : asgT (.tup [.name i, .name j]) (.tup [a, b]) env st = .nx ((env.set i (some a)).set j (some b)) st := by unfold asgT; simp [T.put, T.puts]
@[simp] theorem asgT_three (i j k : Nat) (a b c : A) : asgT (.tup [.name i, .name j, .name k]) (.tup [a, b, c]) env st = .nx (((env.set i (some a)).set j (some b)).set k (some c)) st := by unfold asgT; simp [T.put, T.puts]
def setR (o : Option Sto) (env : En) : SO := match o with
  | some st => .nx env st
  | none => .bad
@[simp] theorem setR_some (st : Sto) (env : En) : setR (some st) env = .nx env st := rfl
@[simp] theorem evS_setIx (o i e : E) : evS C (.setIx o i e) env st = (evE C e env st).toS env fun v st1 => (evE C o env st1).toS env fun ov st2 => (evE C i env st2).toS env fun iv st3 => setR (setAt ov iv v st3) env := by
  rw [evS]
  rfl
@[simp] theorem evS_expr (e : E) : evS C (.expr e) env st = (evE C e env st).toS env fun _ st1 => .nx env st1 := by rw [evS]
@[simp] theorem evS_ret (e : E) : evS C (.ret e) env st = (evE C e env st).toS env fun a st1 => .rt a st1 := by rw [evS]
@[simp] theorem evS_pass : evS C .pass env st = .nx env st := by rw [evS]
@[simp] theorem evS_brk : evS C .brk env st = .bk env st := by rw [evS]
@[simp] theorem evS_cont : evS C .cont env st = .ct env st := by rw [evS]
@[simp] theorem evS_ite (c : E) (a b : Ss) : evS C (.ite c a b) env st = ((evE C c env st).bind asB).toS env fun k st1 => if k then evSs C a env st1 else evSs C b env st1 := by rw [evS]
/-- what a def gives -/
def outR (r : SO) : Rs A := match r with
  | .nx _ st' => .ok .non st'
  | .rt a st' => .ok a st'
  | .ex c fs _ st' => .exc c fs st'
  | _ => .bad
@[simp] theorem outR_nx (env : En) (st : Sto) : outR (.nx env st) = .ok .non st := rfl
@[simp] theorem outR_rt (a : A) (st : Sto) : outR (.rt a st) = .ok a st := rfl
@[simp] theorem outR_ex (c : Str) (fs : List (Str × A)) (env : En) (st : Sto) : outR (.ex c fs env st) = .exc c fs st := rfl
/-- a def that is run as it stands -/
theorem call_gen {p : Prog} {n f : Nat} {a b : Nat} {body : Ss} {as : List A} (h : p f = some ⟨a, b, .gen, body⟩) : callN p (n + 1) f as st = outR (evSs (callN p n) body (as.map some ++ List.replicate (b - as.length) none) st) := by
  rw [callN]
  dsimp only
  rw [h]
  rfl
theorem call_ro {p : Prog} {n f : Nat} {a b : Nat} {body : Ss} {as : List A} (h : p f = some ⟨a, b, .ro, body⟩) : callN p (n + 1) f as st = roRun (fun as st => outR (evSs (callN p n) body (as.map some ++ List.replicate (b - as.length) none) st)) as st := by
  rw [callN]
  dsimp only
  rw [h]
  rfl
end
@[simp] theorem permA_nil (xs : List A) : permA [] xs = xs := rfl
/-! ### primitives -/
section
variable {st : Sto}
@[simp] theorem fII_int (c : Int → Int → Bool) (g : Int → Int → A) (i j : Int) : fII c g (.int i) (.int j) st = if c i j = true then .ok (g i j) st else .bad := rfl
@[simp] theorem fNeg_int (i : Int) : fNeg (.int i) st = .ok (.int (-i)) st := rfl
@[simp] theorem fNot_bl (b : Bool) : fNot (.bl b) st = .ok (.bl (!b)) st := rfl
@[simp] theorem fInt_int (i : Int) : fInt (.int i) st = .ok (.int i) st := rfl
@[simp] theorem fAdd_int (i j : Int) : fAdd (.int i) (.int j) st = .ok (.int (i + j)) st := rfl
@[simp] theorem fEq_int (i j : Int) : fEq (.int i) (.int j) st = .ok (.bl (decide (i = j))) st := rfl
@[simp] theorem fEq_str (i j : Str) : fEq (.str i) (.str j) st = .ok (.bl (decide (i = j))) st := rfl
@[simp] theorem fEq_bl (i j : Bool) : fEq (.bl i) (.bl j) st = .ok (.bl (decide (i = j))) st := rfl
@[simp] theorem fNe_int (i j : Int) : fNe (.int i) (.int j) st = .ok (.bl (!decide (i = j))) st := rfl
@[simp] theorem fNe_str (i j : Str) : fNe (.str i) (.str j) st = .ok (.bl (!decide (i = j))) st := rfl
@[simp] theorem fNe_bl (i j : Bool) : fNe (.bl i) (.bl j) st = .ok (.bl (!decide (i = j))) st := rfl
@[simp] theorem fIs_non (a : A) : fIs a .non st = .ok (.bl (isNonA a)) st := rfl
@[simp] theorem fIs_bl (i j : Bool) : fIs (.bl i) (.bl j) st = .ok (.bl (decide (i = j))) st := rfl
@[simp] theorem fIsNot_non (a : A) : fIsNot a .non st = .ok (.bl (!isNonA a)) st := rfl
@[simp] theorem isNonA_non : isNonA .non = true := rfl
@[simp] theorem isNonA_bl (b : Bool) : isNonA (.bl b) = false := rfl
@[simp] theorem isNonA_int (b : Int) : isNonA (.int b) = false := rfl
@[simp] theorem isNonA_str (b : Str) : isNonA (.str b) = false := rfl
@[simp] theorem isNonA_tup (b : List A) : isNonA (.tup b) = false := rfl
@[simp] theorem isNonA_ref (b : Nat) : isNonA (.ref b) = false := rfl
@[simp] theorem fAbs_int (i : Int) : fAbs [.int i] st = .ok (.int (if i < 0 then -i else i)) st := rfl
@[simp] theorem fIntC_int (i : Int) : fIntC [.int i] st = .ok (.int i) st := rfl
@[simp] theorem fIntC_bl (i : Bool) : fIntC [.bl i] st = .ok (.int (if i then 1 else 0)) st := rfl
@[simp] theorem fGcd_int (a b : Int) : fGcd [.int a, .int b] st = .ok (.int ((Nat.gcd a.natAbs b.natAbs : Nat) : Int)) st := rfl
@[simp] theorem fMax_two (i j : Int) : fMax [.int i, .int j] st = .ok (.int (if j > i then j else i)) st := rfl
theorem fTup_short {xs : List A} (h : xs.length ≤ 1000000) : fTup xs st = .ok (.tup xs) st := by
  unfold fTup lenOk
  rw [decide_eq_true h]
  rfl
@[simp] theorem fTup_2 (a b : A) : fTup [a, b] st = .ok (.tup [a, b]) st := fTup_short (by show 2 ≤ 1000000; decide)
@[simp] theorem fTup_3 (a b c : A) : fTup [a, b, c] st = .ok (.tup [a, b, c]) st := fTup_short (by show 3 ≤ 1000000; decide)
theorem fLst_short {xs : List A} (h : xs.length ≤ 1000000) : fLst xs st = .ok (.ref st.length) (st ++ [.lst xs]) := by
  unfold fLst lenOk
  rw [decide_eq_true h]
  rfl
@[simp] theorem fLst_nil : fLst [] st = .ok (.ref st.length) (st ++ [.lst []]) := fLst_short (by show 0 ≤ 1000000; decide)
@[simp] theorem fLst_cons (a : A) (xs : List A) : fLst (a :: xs) st = if xs.length < 1000000 then .ok (.ref st.length) (st ++ [.lst (a :: xs)]) else .bad := by
  unfold fLst lenOk
  by_cases h : xs.length < 1000000
  · rw [if_pos h, decide_eq_true (by rw [List.length_cons]; omega)]
    rfl
  · rw [if_neg h, decide_eq_false (by rw [List.length_cons]; omega)]
    rfl
/-- subscripts of what is known -/
theorem fIx_tup {xs : List A} {i : Int} {z : A} (h : atI xs i = some z) : fIx (.tup xs) (.int i) st = .ok z st := by
  show (match atI xs i with
    | some z => Rs.ok z st
    | none => .bad) = _
  rw [h]
theorem fIx_rol {xs : List A} {i : Int} {z : A} (h : atI xs i = some z) : fIx (.rol xs) (.int i) st = .ok z st := by
  show (match atI xs i with
    | some z => Rs.ok z st
    | none => .bad) = _
  rw [h]
theorem fIx_lst {l : Nat} {xs : List A} {i : Int} {z : A} (hl : st[l]? = some (.lst xs)) (h : atI xs i = some z) : fIx (.ref l) (.int i) st = .ok z st := by
  have e1 : dctAt (.ref l) st = none := by unfold dctAt; dsimp only; rw [hl]
  have e2 : itemsOf (.ref l) st = some xs := by unfold itemsOf; dsimp only; rw [hl]
  unfold fIx
  rw [e1]
  dsimp only
  rw [e2]
  dsimp only
  rw [h]
theorem atI_nat {α : Type} {xs : List α} {k : Nat} {z : α} (h : xs[k]? = some z) : atI xs (k : Int) = some z := by
  have hk : k < xs.length := (List.getElem?_eq_some_iff.mp h).1
  unfold atI ixN
  have e1 : ¬ ((k : Int) < 0) := by omega
  simp [e1, hk]
  exact (List.getElem?_eq_some_iff.mp h).2
end

/-! ### loops -/
/-- where a run ends -/
def SO.isB (r : SO) (N : En → Sto → Prop) (R : A → Sto → Prop) (B : En → Sto → Prop) (Y : En → Sto → Prop) : Prop := match r with
  | .nx e s => N e s
  | .rt a s => R a s
  | .bk e s => B e s
  | .ct e s => Y e s
  | .ex _ _ _ _ => False
  | .bad => False
structure SO.is (r : SO) (N : En → Sto → Prop) (R : A → Sto → Prop) (B : En → Sto → Prop) (Y : En → Sto → Prop) : Prop where
  out : r.isB N R B Y
abbrev noE : En → Sto → Prop := fun _ _ => False
section
variable {N N' : En → Sto → Prop} {R R' : A → Sto → Prop} {B B' Y Y' : En → Sto → Prop} {r : SO} {env : En} {st : Sto}
@[simp] theorem SO.is_nx : (SO.nx env st).is N R B Y ↔ N env st := ⟨fun h => h.out, fun h => ⟨h⟩⟩
@[simp] theorem SO.is_rt {a : A} : (SO.rt a st).is N R B Y ↔ R a st := ⟨fun h => h.out, fun h => ⟨h⟩⟩
@[simp] theorem SO.is_bk : (SO.bk env st).is N R B Y ↔ B env st := ⟨fun h => h.out, fun h => ⟨h⟩⟩
@[simp] theorem SO.is_ct : (SO.ct env st).is N R B Y ↔ Y env st := ⟨fun h => h.out, fun h => ⟨h⟩⟩
theorem SO.is.mono (h : r.is N R B Y) (hN : ∀ e s, N e s → N' e s) (hR : ∀ a s, R a s → R' a s) (hB : ∀ e s, B e s → B' e s) (hT : ∀ e s, Y e s → Y' e s) : r.is N' R' B' Y' := by
  cases r with
  | nx e s => exact ⟨hN _ _ h.out⟩
  | rt a s => exact ⟨hR _ _ h.out⟩
  | bk e s => exact ⟨hB _ _ h.out⟩
  | ct e s => exact ⟨hT _ _ h.out⟩
  | ex _ _ _ _ => exact h.out.elim
  | bad => exact h.out.elim
theorem SO.is_sq {f : En → Sto → SO} (h : r.is (fun e s => (f e s).is N R B Y) R B Y) : (r.sq f).is N R B Y := by
  cases r with
  | nx e s => exact h.out
  | rt a s => exact ⟨h.out⟩
  | bk e s => exact ⟨h.out⟩
  | ct e s => exact ⟨h.out⟩
  | ex _ _ _ _ => exact h.out.elim
  | bad => exact h.out.elim
theorem outR_is {P : A → Sto → Prop} (h : r.is (fun _ s => P .non s) P noE noE) : ∃ a st', outR r = .ok a st' ∧ P a st' := by
  cases r with
  | nx e s => exact ⟨_, _, rfl, h.out⟩
  | rt a s => exact ⟨_, _, rfl, h.out⟩
  | bk e s => exact h.out.elim
  | ct e s => exact h.out.elim
  | ex _ _ _ _ => exact h.out.elim
  | bad => exact h.out.elim
/-- a run that goes on in one way only -/
theorem SO.is_one {P : En → Sto → Prop} (h : r.is P (fun _ _ => False) noE noE) : ∃ e s, r = .nx e s ∧ P e s := by
  cases r with
  | nx e s => exact ⟨_, _, rfl, h.out⟩
  | rt a s => exact h.out.elim
  | bk e s => exact h.out.elim
  | ct e s => exact h.out.elim
  | ex _ _ _ _ => exact h.out.elim
  | bad => exact h.out.elim
theorem forL_rng {lo : Int} {n : Nat} {body : A → En → Sto → SO} (Inv : Nat → En → Sto → Prop) (hs : ∀ i env st, i < n → Inv i env st → (body (.int (lo + (i : Int))) env st).is (Inv (i + 1)) R N (Inv (i + 1))) (he : ∀ env st, Inv n env st → N env st) :
    ∀ (m i : Nat) (env : En) (st : Sto), i + m = n + 1 → i ≤ n → Inv i env st → (forL (.rng lo n) body m i env st).is N R noE noE
  | 0, i, env, st, h, h2, _ => by omega
  | m + 1, i, env, st, h, h2, hi => by
    unfold forL It.at
    by_cases hl : i < n
    · rw [if_pos hl]
      dsimp only
      have := hs i env st hl hi
      revert this
      cases body (.int (lo + (i : Int))) env st with
      | nx e s => exact fun q => forL_rng Inv hs he m (i + 1) e s (by omega) (by omega) q.out
      | ct e s => exact fun q => forL_rng Inv hs he m (i + 1) e s (by omega) (by omega) q.out
      | bk e s => exact fun q => ⟨q.out⟩
      | rt a s => exact fun q => ⟨q.out⟩
      | ex _ _ _ _ => exact fun q => q.out.elim
      | bad => exact fun q => q.out.elim
    · rw [if_neg hl]
      have : i = n := by omega
      subst this
      exact ⟨he env st hi⟩
theorem for_rng {C : CallT} {es : Es} {t : T} {b : Ss} {lo : Int} {n : Nat} {xs : List A} {st1 : Sto} (Inv : Nat → En → Sto → Prop) (hes : evEs C es env st = .ok xs st1) (hit : itRange xs st1 = .ok (.rng lo n) st1) (h0 : Inv 0 env st1)
    (hs : ∀ i env st, i < n → Inv i env st → (match t.put (.int (lo + (i : Int))) env st with
        | some env' => evSs C b env' st
        | none => .bad : SO).is (Inv (i + 1)) R N (Inv (i + 1))) (he : ∀ env st, Inv n env st → N env st) : (evS C (.for_ itRange es t b) env st).is N R noE noE := by
  rw [evS, hes, Rs.toS_ok, hit, Rs.toS_ok]
  exact forL_rng Inv hs he (n + 1) 0 env st1 (by omega) (Nat.zero_le _) h0
theorem whlL_is {c : En → Sto → Rs A} {body : En → Sto → SO} (Inv : En → Sto → Prop) (μ : En → Sto → Nat)
    (hs : ∀ env st, Inv env st → ∃ k st1, c env st = .ok (.bl k) st1 ∧ (k = false → N env st1) ∧ (k = true → (body env st1).is (fun e s => Inv e s ∧ μ e s < μ env st) R N (fun e s => Inv e s ∧ μ e s < μ env st))) :
    ∀ (fuel : Nat) (env : En) (st : Sto), Inv env st → μ env st < fuel → (whlL c body fuel env st).is N R noE noE
  | 0, env, st, _, h => by omega
  | fuel + 1, env, st, hi, h => by
    obtain ⟨k, st1, e, h1, h2⟩ := hs env st hi
    unfold whlL
    rw [e, Rs.bind_ok, asB_ok, Rs.toS_ok]
    cases k with
    | false => exact ⟨h1 rfl⟩
    | true =>
      rw [if_pos rfl]
      have := h2 rfl
      revert this
      cases body env st1 with
      | nx e s => exact fun q => whlL_is Inv μ hs fuel e s q.out.1 (by have := q.out.2; omega)
      | ct e s => exact fun q => whlL_is Inv μ hs fuel e s q.out.1 (by have := q.out.2; omega)
      | bk e s => exact fun q => ⟨q.out⟩
      | rt a s => exact fun q => ⟨q.out⟩
      | ex _ _ _ _ => exact fun q => q.out.elim
      | bad => exact fun q => q.out.elim
theorem whl_is {C : CallT} {c : E} {b : Ss} {fuel : Nat} (Inv : En → Sto → Prop) (μ : En → Sto → Nat)
    (hs : ∀ env st, Inv env st → ∃ k st1, evE C c env st = .ok (.bl k) st1 ∧ (k = false → N env st1) ∧ (k = true → (evSs C b env st1).is (fun e s => Inv e s ∧ μ e s < μ env st) R N (fun e s => Inv e s ∧ μ e s < μ env st)))
    (h0 : Inv env st) (hf : μ env st < fuel) : (evS C (.whl fuel c b) env st).is N R noE noE := by
  rw [evS]
  exact whlL_is Inv μ hs fuel env st h0 hf
end
/-! ### comprehensions over a range whose body changes nothing -/
def rngL (lo : Int) (n i : Nat) : List Int := (List.range (n - i)).map fun (k : Nat) => lo + ((i + k : Nat) : Int)
theorem rngL_nil {lo : Int} {n i : Nat} (h : n ≤ i) : rngL lo n i = [] := by
  unfold rngL
  rw [Nat.sub_eq_zero_of_le h]
  rfl
theorem rngL_cons {lo : Int} {n i : Nat} (h : i < n) : rngL lo n i = (lo + (i : Int)) :: rngL lo n (i + 1) := by
  unfold rngL
  obtain ⟨k, hk⟩ : ∃ k, n - i = k + 1 := ⟨n - i - 1, by omega⟩
  rw [hk, List.range_succ_eq_map, List.map_cons, List.map_map, show n - (i + 1) = k by omega]
  congr 1
  apply List.map_congr_left
  intro a _
  simp only [Function.comp_apply]
  congr 1
  omega
theorem compL_rng {lo : Int} {n : Nat} {body : A → Sto → Rs (Option A)} {st : Sto} (g : Int → Option A) (hb : ∀ i : Nat, i < n → body (.int (lo + (i : Int))) st = .ok (g (lo + (i : Int))) st) :
    ∀ (m i : Nat) (acc : List A), i + m = n + 1 → i ≤ n → compL (.rng lo n) body m i acc st = .ok (acc ++ (rngL lo n i).filterMap g) st
  | 0, i, acc, h, h2 => by omega
  | m + 1, i, acc, h, h2 => by
    unfold compL It.at
    by_cases hl : i < n
    · rw [if_pos hl]
      dsimp only
      rw [hb i hl, rngL_cons hl, List.filterMap_cons]
      cases g (lo + (i : Int)) with
      | none => exact compL_rng g hb m (i + 1) acc (by omega) (by omega)
      | some y =>
        dsimp only
        rw [compL_rng g hb m (i + 1) (acc ++ [y]) (by omega) (by omega), List.append_assoc]
        rfl
    · rw [if_neg hl, rngL_nil (by omega)]
      simp
theorem comp_rng {C : CallT} {env : En} {own : List Nat} {es : Es} {t : T} {c e : E} {lo : Int} {n : Nat} {xs : List A} {st st1 : Sto} (g : Int → Option A) (hes : evEs C es env st = .ok xs st1) (hit : itRange xs st1 = .ok (.rng lo n) st1) (hn : n ≤ 1000000)
    (hb : ∀ i : Nat, i < n → (match t.put (.int (lo + (i : Int))) (wipeE env own) st1 with
        | some env' => ((evE C c env' st1).bind asB).bind fun k st' => if k then (evE C e env' st').bind fun y st'' => .ok (some y) st'' else .ok none st'
        | none => .bad : Rs (Option A)) = .ok (g (lo + (i : Int))) st1) :
    evE C (.comp own itRange es t c e) env st = .ok (.ref st1.length) (st1 ++ [.lst ((rngL lo n 0).filterMap g)]) := by
  rw [evE, hes, Rs.bind_ok, hit, Rs.bind_ok]
  have hl : lenOk ((It.rng lo n).len st1) = true := decide_eq_true hn
  rw [if_neg (by rw [hl]; decide)]
  have hlen : (It.rng lo n).len st1 = n := rfl
  rw [hlen, compL_rng g hb (n + 1) 0 [] (by omega) (Nat.zero_le _)]
  rfl
theorem itRange_one {k : Int} {st : Sto} (h1 : -(2 ^ 62) ≤ k) (h2 : k < 2 ^ 62) : itRange [.int k] st = .ok (.rng 0 k.toNat) st := by
  unfold itRange
  dsimp only
  rw [if_pos ⟨h1, h2⟩]
theorem itRange_two {i j : Int} {st : Sto} (h1 : -(2 ^ 62) ≤ i) (h2 : i < 2 ^ 62) (h3 : -(2 ^ 62) ≤ j) (h4 : j < 2 ^ 62) : itRange [.int i, .int j] st = .ok (.rng i (j - i).toNat) st := by
  unfold itRange
  dsimp only
  rw [if_pos ⟨h1, h2, h3, h4⟩]
end MP

/-! The laws' own helpers: the box, what is drawn (own work). -/
namespace MP
open PySem PySem.Spec PyProof.Rows L2

/-- nothing but the object at L is changed -/
structure Gr (L : Nat) (st st' : Sto) : Prop where
  len : st.length ≤ st'.length
  same : ∀ l, l < st.length → l ≠ L → st'[l]? = st[l]?
theorem Gr.refl {L : Nat} {st : Sto} : Gr L st st := ⟨Nat.le_refl _, fun _ _ _ => rfl⟩
theorem Gr.trans {L : Nat} {a b c : Sto} (h : Gr L a b) (h' : Gr L b c) : Gr L a c := ⟨Nat.le_trans h.len h'.len, fun l h1 h2 => (h'.same l (Nat.lt_of_lt_of_le h1 h.len) h2).trans (h.same l h1 h2)⟩
theorem Gr.push {L : Nat} {st xs : Sto} : Gr L st (st ++ xs) := ⟨by rw [List.length_append]; omega, fun l h _ => List.getElem?_append_left h⟩
theorem Gr.set {L : Nat} {st : Sto} {o : Ob} : Gr L st (st.set L o) := ⟨by rw [List.length_set]; exact Nat.le_refl _, fun l _ h => List.getElem?_set_ne (Ne.symm h)⟩
theorem Gr.get {L : Nat} {st st' : Sto} (h : Gr L st st') {l : Nat} {o : Ob} (e : st[l]? = some o) (hl : l ≠ L) : st'[l]? = some o := (h.same l (List.getElem?_eq_some_iff.mp e).1 hl).trans e
/-- a box at L, with at most k draws behind it -/
def GB (st : Sto) (L : Nat) (k : Int) : Prop := ∃ (s : Int) (b : Bool) (c d : Int), st[L]? = some (.lst [.int s, .bl b, .int c, .int d]) ∧ 0 ≤ s ∧ 0 ≤ c ∧ c < 4294967296 ∧ 0 ≤ d ∧ d ≤ k
theorem GB.mono {st : Sto} {L : Nat} {k k' : Int} (h : GB st L k) (hk : k ≤ k') : GB st L k' := by
  obtain ⟨s, b, c, d, h1, h2, h3, h4, h5, h6⟩ := h
  exact ⟨s, b, c, d, h1, h2, h3, h4, h5, by omega⟩
theorem GB.lt {st : Sto} {L : Nat} {k : Int} (h : GB st L k) : L < st.length := by
  obtain ⟨s, b, c, d, h1, _⟩ := h
  exact (List.getElem?_eq_some_iff.mp h1).1
theorem GB.push {st xs : Sto} {L : Nat} {k : Int} (h : GB st L k) : GB (st ++ xs) L k := by
  obtain ⟨s, b, c, d, h1, h2⟩ := h
  exact ⟨s, b, c, d, by rw [List.getElem?_append_left (List.getElem?_eq_some_iff.mp h1).1]; exact h1, h2⟩
theorem log2_small {i : Int} {k : Nat} (h0 : 0 ≤ i) (h : i < 2 ^ k) : i.natAbs.log2 ≤ k := by
  by_cases hi : i.natAbs = 0
  · rw [hi]
    have : Nat.log2 0 = 0 := by decide
    omega
  · have : i.natAbs.log2 < k := (Nat.log2_lt hi).mpr (by
      have e : (i.natAbs : Int) = i := Int.natAbs_of_nonneg h0
      have : (i.natAbs : Int) < ((2 ^ k : Nat) : Int) := by rw [e]; push_cast; exact h
      exact_mod_cast this)
    omega
def takeB (a b c m s : Int) : Ss := .cons (.ite (.and_ (.p2 fIx (.var 0) (.c (.int 1))) (.p2 fGtI (.p2 fIx (.var 0) (.c (.int 0))) (.c (.int 0)))) (.cons (.asg (.name 2) (.p2 fMod (.pn fIntC (.cons (.p2 fIx (.var 0) (.c (.int 0))) .nil)) (.var 1))) (.cons (.setIx (.var 0) (.c (.int 0)) (.p2 fDiv (.pn fIntC (.cons (.p2 fIx (.var 0) (.c (.int 0))) .nil)) (.var 1))) (.cons (.ret (.var 2)) .nil))) (.nil)) (.cons (.setIx (.var 0) (.c (.int 3)) (.p2 fAdd (.p2 fIx (.var 0) (.c (.int 3))) (.c (.int 1)))) (.cons (.setIx (.var 0) (.c (.int 2)) (.p2 fMod (.p2 fAdd (.p2 fAdd (.p2 fMul (.p2 fIx (.var 0) (.c (.int 2))) (.c (.int a))) (.p2 fMul (.c (.int b)) (.p2 fIx (.var 0) (.c (.int 3))))) (.c (.int c))) (.c (.int m)))) (.cons (.ret (.p2 fMod (.pn fIntC (.cons (.p2 fDiv (.p2 fIx (.var 0) (.c (.int 2))) (.c (.int s))) .nil)) (.var 1))) .nil)))
section
variable {p : Prog} {n f : Nat} {st : Sto} {L : Nat} {k : Int}
theorem setAt_lst {l : Nat} {xs : List A} {i : Nat} {v : A} (hl : st[l]? = some (.lst xs)) (h : i < xs.length) : setAt (.ref l) (.int (i : Int)) v st = some (st.set l (.lst (xs.set i v))) := by
  unfold setAt
  dsimp only
  rw [hl]
  dsimp only
  unfold ixN
  have h0 : (0 : Int) ≤ (i : Int) := by omega
  have h1 : (i : Int) < (xs.length : Int) := by omega
  rw [if_pos h0, if_pos h1]
  rfl
theorem take_ok {a b c M s m : Int} (hp : p f = some ⟨2, 3, .gen, takeB a b c M s⟩) (hab : 0 ≤ a ∧ a < 4294967296 ∧ 0 ≤ b ∧ b < 4294967296 ∧ 0 ≤ c ∧ 0 < M ∧ M < 4294967296 ∧ 0 < s ∧ s < 4294967296) (g : GB st L k) (hk : k < 4294967295) (h0 : 0 < m) (hm : m < 4294967296) :
    ∃ r st', callN p (n + 1) f [.ref L, .int m] st = .ok (.int r) st' ∧ 0 ≤ r ∧ r < m ∧ GB st' L (k + 1) ∧ Gr L st st' := by
  obtain ⟨s0, b0, c0, d0, e, h1, h2, h3, h4, h5⟩ := g
  have hL := (List.getElem?_eq_some_iff.mp e).1
  have i0 : ∀ {st : Sto} {x0 x1 x2 x3 : A}, st[L]? = some (.lst [x0, x1, x2, x3]) → fIx (.ref L) (.int 0) st = .ok x0 st := fun h => fIx_lst h rfl
  have i1 : ∀ {st : Sto} {x0 x1 x2 x3 : A}, st[L]? = some (.lst [x0, x1, x2, x3]) → fIx (.ref L) (.int 1) st = .ok x1 st := fun h => fIx_lst h rfl
  have i2 : ∀ {st : Sto} {x0 x1 x2 x3 : A}, st[L]? = some (.lst [x0, x1, x2, x3]) → fIx (.ref L) (.int 2) st = .ok x2 st := fun h => fIx_lst h rfl
  have i3 : ∀ {st : Sto} {x0 x1 x2 x3 : A}, st[L]? = some (.lst [x0, x1, x2, x3]) → fIx (.ref L) (.int 3) st = .ok x3 st := fun h => fIx_lst h rfl
  have hlog : ∀ {i : Int}, 0 ≤ i → i < 4294967296 → i.natAbs.log2 ≤ 32 := fun a b => log2_small (k := 32) a (by omega)
  rw [call_gen hp]
  unfold takeB
  have lm := hlog (Int.le_of_lt h0) hm
  have la := hlog hab.1 hab.2.1
  have lb := hlog hab.2.2.1 hab.2.2.2.1
  have lM := hlog (Int.le_of_lt hab.2.2.2.2.2.1) hab.2.2.2.2.2.2.1
  have ls := hlog (Int.le_of_lt hab.2.2.2.2.2.2.2.1) hab.2.2.2.2.2.2.2.2
  have lc := hlog h2 h3
  by_cases hb : b0 = true ∧ 0 < s0
  · obtain ⟨rfl, hs0⟩ := hb
    have dm : m.natAbs.log2 < 9000 := by omega
    refine ⟨s0 % m, st.set L (.lst [.int (s0 / m), .bl true, .int c0, .int d0]), ?_, Int.emod_nonneg _ (by omega), Int.emod_lt_of_pos _ h0, ⟨s0 / m, true, c0, d0, by simp [hL], Int.ediv_nonneg h1 (by omega), h2, h3, h4, by omega⟩, Gr.set⟩
    have e4 : setAt (.ref L) (.int 0) (.int (s0 / m)) st = some (st.set L (.lst [.int (s0 / m), .bl true, .int c0, .int d0])) := setAt_lst (i := 0) e (by show 0 < 4; decide)
    simp [i0 e, i1 e, hs0, h0, dm, e4]
  · have e4 : setAt (.ref L) (.int 3) (.int (d0 + 1)) st = some (st.set L (.lst [.int s0, .bl b0, .int c0, .int (d0 + 1)])) := setAt_lst (i := 3) e (by show 3 < 4; decide)
    have e5 : (st.set L (.lst [.int s0, .bl b0, .int c0, .int (d0 + 1)]))[L]? = some (.lst [.int s0, .bl b0, .int c0, .int (d0 + 1)]) := by simp [hL]
    have ld := hlog (i := d0 + 1) (by omega) (by omega)
    have m1 : c0.natAbs.log2 + a.natAbs.log2 < 1000000 := by omega
    have m2 : b.natAbs.log2 + (d0 + 1).natAbs.log2 < 1000000 := by omega
    have hM := hab.2.2.2.2.2.1
    have hs := hab.2.2.2.2.2.2.2.1
    have ds : s.natAbs.log2 < 9000 := by omega
    generalize hz : (c0 * a + b * (d0 + 1) + c) % M = z
    have hz0 : 0 ≤ z := by rw [← hz]; exact Int.emod_nonneg _ (by omega)
    have hz1 : z < M := by rw [← hz]; exact Int.emod_lt_of_pos _ hM
    have e6 : setAt (.ref L) (.int 2) (.int z) (st.set L (.lst [.int s0, .bl b0, .int c0, .int (d0 + 1)])) = some (st.set L (.lst [.int s0, .bl b0, .int z, .int (d0 + 1)])) := by
      have := setAt_lst (v := .int z) (i := 2) e5 (by show 2 < 4; decide)
      rw [List.set_set] at this
      exact this
    have e7 : (st.set L (.lst [.int s0, .bl b0, .int z, .int (d0 + 1)]))[L]? = some (.lst [.int s0, .bl b0, .int z, .int (d0 + 1)]) := by simp [hL]
    refine ⟨z / s % m, st.set L (.lst [.int s0, .bl b0, .int z, .int (d0 + 1)]), ?_, Int.emod_nonneg _ (by omega), Int.emod_lt_of_pos _ h0, ⟨s0, b0, z, d0 + 1, e7, h1, hz0, by omega, by omega, by omega⟩, Gr.set⟩
    cases b0 with
    | true =>
      have hs0 : ¬ 0 < s0 := fun q => hb ⟨rfl, q⟩
      simp [i0 e, i1 e, i3 e, i2 e5, i3 e5, hs0, e4, m1, m2, hM, hz, e6, i2 e7, hs, ds, h0]
    | false => simp [i0 e, i1 e, i3 e, i2 e5, i3 e5, e4, m1, m2, hM, hz, e6, i2 e7, hs, ds, h0]
/-- what is drawn of a list -/
def pickB (t : Nat) : Ss := .cons (.ret (.p2 fIx (.var 1) (.call t [] (.cons (.var 0) (.cons (.pn fLen (.cons (.var 1) .nil)) .nil))))) .nil
theorem pick_ok {a b c M s : Int} {t : Nat} {xs : List A} {l : Nat} (hp : p f = some ⟨2, 2, .gen, pickB t⟩) (ht : p t = some ⟨2, 3, .gen, takeB a b c M s⟩) (hab : 0 ≤ a ∧ a < 4294967296 ∧ 0 ≤ b ∧ b < 4294967296 ∧ 0 ≤ c ∧ 0 < M ∧ M < 4294967296 ∧ 0 < s ∧ s < 4294967296) (g : GB st L k) (hk : k < 4294967295)
    (hl : st[l]? = some (.lst xs)) (hx : 0 < xs.length) (hx2 : xs.length < 1000000) (hne : l ≠ L) :
    ∃ v st', callN p (n + 2) f [.ref L, .ref l] st = .ok v st' ∧ v ∈ xs ∧ GB st' L (k + 1) ∧ Gr L st st' := by
  obtain ⟨r, st', e, r0, r1, g', G⟩ := take_ok (n := n) (m := (xs.length : Int)) ht hab g hk (by omega) (by omega)
  have hr : r.toNat < xs.length := by omega
  refine ⟨xs[r.toNat], st', ?_, List.getElem_mem hr, g', G⟩
  rw [call_gen hp]
  unfold pickB
  have e1 : fLen [.ref l] st = .ok (.int (xs.length : Int)) st := by
    unfold fLen
    dsimp only
    rw [hl]
  have e2 : fIx (.ref l) (.int r) st' = .ok xs[r.toNat] st' := fIx_lst (G.get hl hne) (by
    have h : ((r.toNat : Nat) : Int) = r := Int.toNat_of_nonneg r0
    have h5 := atI_nat (xs := xs) (k := r.toNat) (z := xs[r.toNat]) (by simp [hr])
    rwa [h] at h5)
  simp [e1, e, e2]
end
/-! ### fractions in lowest terms -/
def lowB (fu : Nat) : Ss := .cons (.asg (.tup [.name 2, .name 3]) (.pn fTup (.cons (.pn fAbs (.cons (.var 0) .nil)) (.cons (.pn fAbs (.cons (.var 1) .nil)) .nil)))) (.cons (.whl fu (.p2 fGtI (.var 3) (.c (.int 0))) (.cons (.asg (.tup [.name 2, .name 3]) (.pn fTup (.cons (.var 3) (.cons (.p2 fMod (.pn fIntC (.cons (.var 2) .nil)) (.var 3)) .nil)))) .nil)) (.cons (.ite (.p2 fLtI (.var 1) (.c (.int 0))) (.cons (.asg (.name 2) (.p1 fNeg (.var 2))) .nil) (.nil)) (.cons (.ret (.pn fTup (.cons (.p2 fDiv (.var 0) (.var 2)) (.cons (.p2 fDiv (.var 1) (.var 2)) .nil)))) .nil)))
section
variable {p : Prog} {n f fu : Nat} {st : Sto}
theorem low_ok {t b : Int} (hp : p f = some ⟨2, 4, .gen, lowB fu⟩) (hb : 0 < b) (hl : b.natAbs.log2 < 9000) (hf : b.natAbs + 1 ≤ fu) : callN p (n + 1) f [.int t, .int b] st = .ok (.tup [.int (t / (Int.gcd t b : Int)), .int (b / (Int.gcd t b : Int))]) st := by
  rw [call_gen hp]
  unfold lowB
  have key : (evS (callN p n) (.whl fu (.p2 fGtI (.var 3) (.c (.int 0))) (.cons (.asg (.tup [.name 2, .name 3]) (.pn fTup (.cons (.var 3) (.cons (.p2 fMod (.pn fIntC (.cons (.var 2) .nil)) (.var 3)) .nil)))) .nil)) [some (.int t), some (.int b), some (.int (if t < 0 then -t else t)), some (.int (if b < 0 then -b else b))] st).is
      (fun e s => e = [some (.int t), some (.int b), some (.int (Int.gcd t b)), some (.int 0)] ∧ s = st) (fun _ _ => False) noE noE := by
    refine whl_is (fun e s => s = st ∧ ∃ x y : Int, e = [some (.int t), some (.int b), some (.int x), some (.int y)] ∧ 0 ≤ x ∧ 0 ≤ y ∧ Int.gcd x y = Int.gcd t b) (fun e _ => match e with
      | [_, _, _, some (.int y)] => y.natAbs
      | _ => 0) ?_ ?_ ?_
    · rintro e s ⟨rfl, x, y, rfl, hx, hy, hg⟩
      refine ⟨decide (0 < y), s, by simp, fun h => ?_, fun h => ?_⟩
      · have h0 : y = 0 := by have := of_decide_eq_false h; omega
        subst h0
        refine ⟨?_, rfl⟩
        rw [Int.gcd_zero_right] at hg
        have : x = (Int.gcd t b : Int) := by rw [← hg]; omega
        rw [this]
      · have h0 : 0 < y := of_decide_eq_true h
        have hb : evSs (callN p n) (.cons (.asg (.tup [.name 2, .name 3]) (.pn fTup (.cons (.var 3) (.cons (.p2 fMod (.pn fIntC (.cons (.var 2) .nil)) (.var 3)) .nil)))) .nil) [some (.int t), some (.int b), some (.int x), some (.int y)] s = .nx [some (.int t), some (.int b), some (.int y), some (.int (x % y))] s := by simp [h0]
        rw [hb, SO.is_nx]
        refine ⟨⟨rfl, y, x % y, rfl, by omega, Int.emod_nonneg _ (by omega), ?_⟩, ?_⟩
        · rw [← hg, Int.gcd_comm x y]
          unfold Int.gcd
          rw [Int.natAbs_emod_of_nonneg hx, Nat.gcd_comm, ← Nat.gcd_rec, Nat.gcd_comm]
        · have h1 := Int.emod_nonneg x (show y ≠ 0 by omega)
          have h2 := Int.emod_lt_of_pos x h0
          show (x % y).natAbs < y.natAbs
          omega
    · refine ⟨rfl, _, _, rfl, ?_, ?_, ?_⟩
      · split <;> omega
      · split <;> omega
      · rw [if_neg (by omega : ¬ b < 0)]
        split
        · rw [Int.neg_gcd]
        · rfl
    · show ((if b < 0 then -b else b) : Int).natAbs < fu
      rw [if_neg (by omega : ¬ b < 0)]
      omega
  have hg : 0 < (Int.gcd t b : Int) := by
    have := Int.gcd_pos_of_ne_zero_right t (show b ≠ 0 by omega)
    omega
  have hgl : ((Int.gcd t b : Nat) : Int).natAbs.log2 < 9000 := by
    have hle : Int.gcd t b ≤ b.natAbs := Nat.le_of_dvd (by omega) (Nat.gcd_dvd_right t.natAbs b.natAbs)
    rw [Int.natAbs_natCast]
    exact (Nat.log2_lt (by omega)).mpr (Nat.lt_of_le_of_lt hle ((Nat.log2_lt (by omega)).mp hl))
  have hbn : ¬ b < 0 := by omega
  simp only [evSs_cons, evS_asg, evE_pn, evEs_cons, evEs_nil, evE_var, slotR, List.map, List.length, List.replicate, List.append, Nat.reduceSub, List.cons_append, List.nil_append, List.getElem?_cons_zero, List.getElem?_cons_succ, fAbs_int, Rs.bind_ok, Rs.toS_ok, fTup_2, asgT_two, List.set, SO.sq_nx]
  obtain ⟨e, s, he, rfl, rfl⟩ := SO.is_one key
  rw [he]
  generalize (Int.gcd t b : Int) = G at *
  simp [hbn, hg, hgl]
/-! sums, products of fractions -/
def plusB (l : Nat) : Ss := .cons (.ret (.call l [] (.cons (.p2 fAdd (.p2 fMul (.p2 fIx (.var 0) (.c (.int 0))) (.p2 fIx (.var 1) (.c (.int 1)))) (.p2 fMul (.p2 fIx (.var 1) (.c (.int 0))) (.p2 fIx (.var 0) (.c (.int 1))))) (.cons (.p2 fMul (.p2 fIx (.var 0) (.c (.int 1))) (.p2 fIx (.var 1) (.c (.int 1)))) .nil)))) .nil
def timesB (l : Nat) : Ss := .cons (.ret (.call l [] (.cons (.p2 fMul (.p2 fIx (.var 0) (.c (.int 0))) (.p2 fIx (.var 1) (.c (.int 0)))) (.cons (.p2 fMul (.p2 fIx (.var 0) (.c (.int 1))) (.p2 fIx (.var 1) (.c (.int 1)))) .nil)))) .nil
@[simp] theorem fIx_two0 (a b : A) : fIx (.tup [a, b]) (.int 0) st = .ok a st := fIx_tup rfl
@[simp] theorem fIx_two1 (a b : A) : fIx (.tup [a, b]) (.int 1) st = .ok b st := fIx_tup rfl
theorem plus_eq {x y u v : Int} {l : Nat} (hp : p f = some ⟨2, 2, .gen, plusB l⟩) (h1 : x.natAbs.log2 + v.natAbs.log2 < 1000000) (h2 : u.natAbs.log2 + y.natAbs.log2 < 1000000) (h3 : y.natAbs.log2 + v.natAbs.log2 < 1000000) :
    callN p (n + 1) f [.tup [.int x, .int y], .tup [.int u, .int v]] st = outR (((callN p n l [.int (x * v + u * y), .int (y * v)] st).toS [some (.tup [.int x, .int y]), some (.tup [.int u, .int v])] fun a st1 => SO.rt a st1).sq fun env st => .nx env st) := by
  rw [call_gen hp]
  unfold plusB
  simp [h1, h2, h3]
theorem times_eq {x y u v : Int} {l : Nat} (hp : p f = some ⟨2, 2, .gen, timesB l⟩) (h1 : x.natAbs.log2 + u.natAbs.log2 < 1000000) (h3 : y.natAbs.log2 + v.natAbs.log2 < 1000000) :
    callN p (n + 1) f [.tup [.int x, .int y], .tup [.int u, .int v]] st = outR (((callN p n l [.int (x * u), .int (y * v)] st).toS [some (.tup [.int x, .int y]), some (.tup [.int u, .int v])] fun a st1 => SO.rt a st1).sq fun env st => .nx env st) := by
  rw [call_gen hp]
  unfold timesB
  simp [h1, h3]
/-! the box, the script -/
def boxB (M : Int) : Ss := .cons (.asg (.name 1) (.p2 fMod (.pn fIntC (.cons (.pn fAbs (.cons (.var 0) .nil)) .nil)) (.p2 fPow (.c (.int 10)) (.c (.int 64))))) (.cons (.ret (.pn fLst (.cons (.var 1) (.cons (.p2 fGeI (.pn fAbs (.cons (.var 0) .nil)) (.p2 fPow (.c (.int 10)) (.c (.int 18)))) (.cons (.p2 fMod (.var 1) (.c (.int M))) (.cons (.c (.int 0)) .nil)))))) .nil)
theorem box_ok {x M : Int} (hp : p f = some ⟨1, 2, .gen, boxB M⟩) (hM : 0 < M) (hM2 : M < 4294967296) : ∃ o, callN p (n + 1) f [.int x] st = .ok (.ref st.length) (st ++ [o]) ∧ GB (st ++ [o]) st.length 0 := by
  generalize hs : (if x < 0 then -x else x) % 10000000000000000000000000000000000000000000000000000000000000000 = s
  have hs0 : 0 ≤ s := by rw [← hs]; exact Int.emod_nonneg _ (by decide)
  refine ⟨.lst [.int s, .bl (decide (1000000000000000000 ≤ if x < 0 then -x else x)), .int (s % M), .int 0], ?_, s, _, s % M, 0, by simp; rfl, hs0, Int.emod_nonneg _ (by omega), ?_, by omega, by omega⟩
  · rw [call_gen hp]
    unfold boxB
    have e1 : (10 : Int) ^ (64 : Int).toNat = 10000000000000000000000000000000000000000000000000000000000000000 := by decide
    have e2 : (10 : Int) ^ (18 : Int).toNat = 1000000000000000000 := by decide
    simp [hs, hM]
  · have := Int.emod_lt_of_pos s hM
    omega
/-! powers by a loop -/
def raisedB : Ss := .cons (.asg (.name 2) (.c (.int 1))) (.cons (.for_ itRange (.cons (.var 1) .nil) (.name 3) (.cons (.asg (.name 2) (.p2 fMul (.var 2) (.var 0))) .nil)) (.cons (.ret (.var 2)) .nil))
theorem log2_pow_le {a : Nat} {B : Nat} (h : a < 2 ^ B) : ∀ k : Nat, (a ^ k).log2 ≤ B * k
  | 0 => by
    have : (a ^ 0).log2 = 0 := by
      rw [Nat.pow_zero]
      decide
    omega
  | k + 1 => by
    by_cases h0 : a ^ (k + 1) = 0
    · rw [h0]
      have : Nat.log2 0 = 0 := by decide
      omega
    · have h1 : a ^ (k + 1) < (2 ^ B) ^ (k + 1) := Nat.pow_lt_pow_left h (by omega)
      rw [← Nat.pow_mul] at h1
      have := (Nat.log2_lt h0).mpr h1
      omega
theorem raised_ok {a k : Int} {B : Nat} (hp : p f = some ⟨2, 4, .gen, raisedB⟩) (h0 : 0 ≤ k) (hk : k ≤ 1000) (ha : a.natAbs < 2 ^ B) (hB : B * 1001 < 900000) : callN p (n + 1) f [.int a, .int k] st = .ok (.int (a ^ k.toNat)) st := by
  rw [call_gen hp]
  unfold raisedB
  have key : ∀ (C : CallT) (env : En), env = [some (.int a), some (.int k), some (.int 1), none] → (evS C (.for_ itRange (.cons (.var 1) .nil) (.name 3) (.cons (.asg (.name 2) (.p2 fMul (.var 2) (.var 0))) .nil)) env st).is
      (fun e s => (∃ t, e = [some (.int a), some (.int k), some (.int (a ^ k.toNat)), t]) ∧ s = st) (fun _ _ => False) noE noE := by
    intro C env he
    have hes : evEs C (.cons (.var 1) .nil) env st = .ok [.int k] st := by simp [he]
    refine for_rng (lo := 0) (n := k.toNat) (fun i e s => (∃ t, e = [some (.int a), some (.int k), some (.int (a ^ i)), t]) ∧ s = st) hes (itRange_one (by omega) (by omega)) ⟨⟨none, by rw [Int.pow_zero]; exact he⟩, rfl⟩ ?_ ?_
    · intro i e s hi hh
      obtain ⟨⟨t, he1⟩, hs⟩ := hh
      have hl : (a ^ i).natAbs.log2 + a.natAbs.log2 < 1000000 := by
        have h1 := log2_pow_le ha i
        have h2 := log2_pow_le ha 1
        rw [Int.natAbs_pow]
        rw [Nat.pow_one] at h2
        have h3 : B * i ≤ B * 1000 := Nat.mul_le_mul_left _ (by omega)
        omega
      generalize hz : a ^ i = z at hl he1
      generalize hx : (0 + (i : Int)) = x
      have hb : evSs C (.cons (.asg (.name 2) (.p2 fMul (.var 2) (.var 0))) .nil) [some (.int a), some (.int k), some (.int z), some (.int x)] s = .nx [some (.int a), some (.int k), some (.int (z * a)), some (.int x)] s := by
        simp [hl]
      rw [he1]
      simp only [T.put, List.set]
      rw [hb, SO.is_nx]
      exact ⟨⟨_, by rw [Int.pow_succ, hz]⟩, hs⟩
    · exact fun e s h => h
  generalize S.for_ itRange (.cons (.var 1) .nil) (.name 3) (.cons (.asg (.name 2) (.p2 fMul (.var 2) (.var 0))) .nil) = fs at key ⊢
  obtain ⟨e, s, he, ⟨t, rfl⟩, rfl⟩ := SO.is_one (key (callN p n) _ rfl)
  simp [he]
end
end MP

/-! fractions as pairs (own work) -/
namespace MP
abbrev Fq := Int × Int
def red (a d : Int) : Fq := (a / (Int.gcd a d : Int), d / (Int.gcd a d : Int))
theorem gcd_pp {a d : Int} (hd : 0 < d) : 0 < (Int.gcd a d : Int) := by
  have := Int.gcd_pos_of_ne_zero_right a (show d ≠ 0 by omega)
  omega
theorem red_1 (a d : Int) : (red a d).1 * (Int.gcd a d : Int) = a := Int.ediv_mul_cancel (Int.gcd_dvd_left a d)
theorem red_2 (a d : Int) : (red a d).2 * (Int.gcd a d : Int) = d := Int.ediv_mul_cancel (Int.gcd_dvd_right a d)
theorem posm {a g : Int} (h : 0 < a * g) (hg : 0 < g) : 0 < a := by
  rcases Int.lt_or_le 0 a with h1 | h1
  · exact h1
  · have := Int.mul_le_mul_of_nonneg_right h1 (Int.le_of_lt hg)
    omega
theorem red_pos {a d : Int} (hd : 0 < d) : 0 < (red a d).2 := posm (by rw [red_2]; exact hd) (gcd_pp (a := a) hd)
theorem red_x {a d : Int} (hd : 0 < d) : (red a d).1 * d = a * (red a d).2 := by
  have h1 := red_1 a d
  have h2 := red_2 a d
  generalize (Int.gcd a d : Int) = g at *
  generalize (red a d).1 = p at *
  generalize (red a d).2 = q at *
  subst h1 h2
  grind
theorem red_k {a d k : Int} (hd : 0 < d) (hk : 0 < k) : red (a * k) (d * k) = red a d := by
  have hg : Int.gcd (a * k) (d * k) = Int.gcd a d * k.natAbs := Int.gcd_mul_right _ _ _
  unfold red
  have hgi : (Int.gcd (a * k) (d * k) : Int) = (Int.gcd a d : Int) * k := by
    rw [hg]
    push_cast
    rw [Int.natAbs_of_nonneg (Int.le_of_lt hk)]
  rw [hgi, Int.mul_ediv_mul_of_pos_left _ _ hk, Int.mul_ediv_mul_of_pos_left _ _ hk]
theorem red_eq {a d b e : Int} (hd : 0 < d) (he : 0 < e) (h : a * e = b * d) : red a d = red b e := by
  rw [← red_k hd he, h, Int.mul_comm d e, red_k he hd]
theorem red_low {a d : Int} (hd : 0 < d) (hg : Int.gcd a d = 1) : red a d = (a, d) := by
  unfold red
  rw [hg]
  simp
theorem red_gcd {a d : Int} (hd : 0 < d) : Int.gcd (red a d).1 (red a d).2 = 1 := by
  have hp := gcd_pp (a := a) hd
  have h := Int.gcd_mul_right (red a d).1 (Int.gcd a d : Int) (red a d).2
  rw [red_1, red_2] at h
  have h2 : (Int.gcd a d : Int).natAbs = Int.gcd a d := Int.natAbs_natCast _
  rw [h2] at h
  have h3 : 0 < Int.gcd a d := by omega
  refine Nat.eq_of_mul_eq_mul_right h3 ?_
  rw [Nat.one_mul]
  exact h.symm
theorem red_red {a d : Int} (hd : 0 < d) : red (red a d).1 (red a d).2 = red a d := red_low (red_pos hd) (red_gcd hd)
/-- cross products decide -/
theorem red_lt {a d b e : Int} (hd : 0 < d) (he : 0 < e) : (red a d).1 * (red b e).2 < (red b e).1 * (red a d).2 ↔ a * e < b * d := by
  have h1 := red_1 a d
  have h2 := red_2 a d
  have h3 := red_1 b e
  have h4 := red_2 b e
  have hg := gcd_pp (a := a) hd
  have hk := gcd_pp (a := b) he
  generalize (Int.gcd a d : Int) = g at *
  generalize (Int.gcd b e : Int) = k at *
  generalize (red a d).1 = p at *
  generalize (red a d).2 = q at *
  generalize (red b e).1 = r at *
  generalize (red b e).2 = s at *
  have hgk : 0 < g * k := Int.mul_pos hg hk
  have e1 : a * e = p * s * (g * k) := by subst h1 h4; grind
  have e2 : b * d = r * q * (g * k) := by subst h2 h3; grind
  rw [e1, e2]
  exact ⟨fun h => Int.mul_lt_mul_of_pos_right h hgk, fun h => Int.lt_of_mul_lt_mul_right h (Int.le_of_lt hgk)⟩
theorem red_nn {a d : Int} (hd : 0 < d) (ha : 0 ≤ a) : 0 ≤ (red a d).1 := by
  have h1 := red_1 a d
  have hg := gcd_pp (a := a) hd
  generalize (red a d).1 = p at *
  rcases Int.le_total 0 p with h | h
  · exact h
  · have := Int.mul_le_mul_of_nonneg_right h (Int.le_of_lt hg)
    generalize (Int.gcd a d : Int) = g at *
    by_cases h0 : p = 0
    · omega
    · have h2 : p * g < 0 * g := Int.mul_lt_mul_of_pos_right (by omega) hg
      omega
/-- sums, differences, products, quotients -/
def pl (x y : Fq) : Fq := red (x.1 * y.2 + y.1 * x.2) (x.2 * y.2)
def mi (x y : Fq) : Fq := red (x.1 * y.2 - y.1 * x.2) (x.2 * y.2)
def ti (x y : Fq) : Fq := red (x.1 * y.1) (x.2 * y.2)
def ov (x y : Fq) : Fq := red (x.1 * y.2) (x.2 * y.1)
theorem one_red : ((1, 1) : Fq) = red 1 1 := by decide
theorem two_red : ((2, 1) : Fq) = red 2 1 := by decide
section
variable {a d b e : Int}
theorem pl_red (hd : 0 < d) (he : 0 < e) : pl (red a d) (red b e) = red (a * e + b * d) (d * e) := by
  unfold pl
  have h1 := red_x (a := a) hd
  have h2 := red_x (a := b) he
  have p1 := red_pos (a := a) hd
  have p2 := red_pos (a := b) he
  generalize (red a d).1 = p at *
  generalize (red a d).2 = q at *
  generalize (red b e).1 = r at *
  generalize (red b e).2 = s at *
  refine red_eq (Int.mul_pos p1 p2) (Int.mul_pos hd he) ?_
  grind
theorem mi_red (hd : 0 < d) (he : 0 < e) : mi (red a d) (red b e) = red (a * e - b * d) (d * e) := by
  unfold mi
  have h1 := red_x (a := a) hd
  have h2 := red_x (a := b) he
  have p1 := red_pos (a := a) hd
  have p2 := red_pos (a := b) he
  generalize (red a d).1 = p at *
  generalize (red a d).2 = q at *
  generalize (red b e).1 = r at *
  generalize (red b e).2 = s at *
  refine red_eq (Int.mul_pos p1 p2) (Int.mul_pos hd he) ?_
  grind
theorem ti_red (hd : 0 < d) (he : 0 < e) : ti (red a d) (red b e) = red (a * b) (d * e) := by
  unfold ti
  have h1 := red_x (a := a) hd
  have h2 := red_x (a := b) he
  have p1 := red_pos (a := a) hd
  have p2 := red_pos (a := b) he
  generalize (red a d).1 = p at *
  generalize (red a d).2 = q at *
  generalize (red b e).1 = r at *
  generalize (red b e).2 = s at *
  refine red_eq (Int.mul_pos p1 p2) (Int.mul_pos hd he) ?_
  grind
theorem ov_red (hd : 0 < d) (hb : 0 < b) (he : 0 < e) : ov (red a d) (red b e) = red (a * e) (d * b) := by
  unfold ov
  have h1 := red_x (a := a) hd
  have h2 := red_x (a := b) he
  have p1 := red_pos (a := a) hd
  have p2 := red_pos (a := b) he
  have p3 : 0 < (red b e).1 := posm (by rw [red_1]; exact hb) (gcd_pp (a := b) he)
  generalize (red a d).1 = p at *
  generalize (red a d).2 = q at *
  generalize (red b e).1 = r at *
  generalize (red b e).2 = s at *
  refine red_eq (Int.mul_pos p1 p3) (Int.mul_pos hd hb) ?_
  grind
end
/-- a power of a fraction in lowest terms is one -/
theorem gcd_pow {a d : Int} (h : Int.gcd a d = 1) (k : Nat) : Int.gcd (a ^ k) (d ^ k) = 1 := by
  have h1 : Nat.gcd (a ^ k).natAbs (d ^ k).natAbs = 1 := by
    rw [Int.natAbs_pow, Int.natAbs_pow]
    exact Nat.Coprime.pow k k h
  exact h1
theorem red_pow {a d : Int} (hd : 0 < d) (k : Nat) : ((red a d).1 ^ k, (red a d).2 ^ k) = red (a ^ k) (d ^ k) := by
  have h1 := red_1 a d
  have h2 := red_2 a d
  have hg := gcd_pp (a := a) hd
  have e1 : a ^ k = (red a d).1 ^ k * (Int.gcd a d : Int) ^ k := by rw [← Int.mul_pow, h1]
  have e2 : d ^ k = (red a d).2 ^ k * (Int.gcd a d : Int) ^ k := by rw [← Int.mul_pow, h2]
  rw [e1, e2, red_k (Int.pow_pos (red_pos hd)) (Int.pow_pos hg), red_low (Int.pow_pos (red_pos hd)) (gcd_pow (red_gcd hd) k)]
/-! sizes -/
structure Fr (B : Nat) (x : Fq) : Prop where
  p : 0 < x.2
  n : x.1.natAbs < 2 ^ B
  d : x.2.natAbs < 2 ^ B
theorem bd_mul {a b : Int} {A B : Nat} (ha : a.natAbs < 2 ^ A) (hb : b.natAbs < 2 ^ B) : (a * b).natAbs < 2 ^ (A + B) := by
  rw [Int.natAbs_mul, Nat.pow_add]
  exact Nat.mul_lt_mul'' ha hb
theorem bd_add {a b : Int} {A : Nat} (ha : a.natAbs < 2 ^ A) (hb : b.natAbs < 2 ^ A) : (a + b).natAbs < 2 ^ (A + 1) := by
  rw [Nat.pow_succ]
  have := Int.natAbs_add_le a b
  omega
theorem bd_sub {a b : Int} {A : Nat} (ha : a.natAbs < 2 ^ A) (hb : b.natAbs < 2 ^ A) : (a - b).natAbs < 2 ^ (A + 1) := by
  rw [Nat.pow_succ]
  omega
theorem bd_mono {a : Int} {A B : Nat} (ha : a.natAbs < 2 ^ A) (h : A ≤ B) : a.natAbs < 2 ^ B := Nat.lt_of_lt_of_le ha (Nat.pow_le_pow_right (by decide) h)
theorem bd_log {i : Int} {B : Nat} (h : i.natAbs < 2 ^ B) : i.natAbs.log2 ≤ B := by
  by_cases hi : i.natAbs = 0
  · rw [hi]
    have : Nat.log2 0 = 0 := by decide
    omega
  · have := (Nat.log2_lt hi).mpr h
    omega
theorem bd_pow {a : Int} {A k m : Nat} (ha : a.natAbs < 2 ^ A) (hk : k ≤ m) : (a ^ k).natAbs < 2 ^ (A * m + 1) := by
  rw [Int.natAbs_pow]
  have h1 : a.natAbs ^ k ≤ (2 ^ A) ^ k := Nat.pow_le_pow_left (by omega) k
  rw [← Nat.pow_mul] at h1
  have h2 : 2 ^ (A * k) < 2 ^ (A * m + 1) := Nat.pow_lt_pow_right (by decide) (by have := Nat.mul_le_mul_left A hk; omega)
  omega
theorem le_mul_pos {a g : Nat} (hg : 0 < g) : a ≤ a * g := Nat.le_mul_of_pos_right a hg
theorem red_bd {a d : Int} {B : Nat} (hd : 0 < d) (ha : a.natAbs < 2 ^ B) (hb : d.natAbs < 2 ^ B) : Fr B (red a d) := by
  have h1 := congrArg Int.natAbs (red_1 a d)
  have h2 := congrArg Int.natAbs (red_2 a d)
  have hg := gcd_pp (a := a) hd
  rw [Int.natAbs_mul] at h1 h2
  have hg' : 0 < (Int.gcd a d : Int).natAbs := by omega
  have l1 := le_mul_pos (a := (red a d).1.natAbs) hg'
  have l2 := le_mul_pos (a := (red a d).2.natAbs) hg'
  exact ⟨red_pos hd, by omega, by omega⟩
theorem Fr.mono {B C : Nat} {x : Fq} (h : Fr B x) (hc : B ≤ C) : Fr C x := ⟨h.p, bd_mono h.n hc, bd_mono h.d hc⟩
theorem pl_bd {x y : Fq} {A B : Nat} (hx : Fr A x) (hy : Fr B y) : Fr (A + B + 1) (pl x y) := by
  have h1 := bd_mul hx.n hy.d
  have h2 := bd_mul hy.n hx.d
  rw [Nat.add_comm B A] at h2
  exact red_bd (Int.mul_pos hx.p hy.p) (bd_add h1 h2) (bd_mono (bd_mul hx.d hy.d) (by omega))
theorem mi_bd {x y : Fq} {A B : Nat} (hx : Fr A x) (hy : Fr B y) : Fr (A + B + 1) (mi x y) := by
  have h1 := bd_mul hx.n hy.d
  have h2 := bd_mul hy.n hx.d
  rw [Nat.add_comm B A] at h2
  exact red_bd (Int.mul_pos hx.p hy.p) (bd_sub h1 h2) (bd_mono (bd_mul hx.d hy.d) (by omega))
theorem ti_bd {x y : Fq} {A B : Nat} (hx : Fr A x) (hy : Fr B y) : Fr (A + B) (ti x y) := red_bd (Int.mul_pos hx.p hy.p) (bd_mul hx.n hy.n) (bd_mul hx.d hy.d)
theorem ov_bd {x y : Fq} {A B : Nat} (hx : Fr A x) (hy : Fr B y) (h : 0 < y.1) : Fr (A + B) (ov x y) := red_bd (Int.mul_pos hx.p h) (bd_mul hx.n hy.d) (bd_mul hx.d hy.n)
theorem pw_bd {x : Fq} {A k m : Nat} (hx : Fr A x) (hk : k ≤ m) : Fr (A * m + 1) (x.1 ^ k, x.2 ^ k) := ⟨Int.pow_pos hx.p, bd_pow hx.n hk, bd_pow hx.d hk⟩
end MP

/-! Functions over fractions, powers, roots: what the small language's run of them gives (own work). -/
namespace MP
open PySem PySem.Spec PyProof.Rows L2
def fA (x : Fq) : A := .tup [.int x.1, .int x.2]
section
variable {p : Prog} {n f l fu : Nat} {st : Sto} {x y : Fq} {BA BB : Nat}
@[simp] theorem fIx_fA0 : fIx (fA x) (.int 0) st = .ok (.int x.1) st := fIx_two0 _ _
@[simp] theorem fIx_fA1 : fIx (fA x) (.int 1) st = .ok (.int x.2) st := fIx_two1 _ _
/-- a function that brings to lowest terms -/
structure RedF (p : Prog) (l : Nat) : Prop where
  ok : ∀ (n : Nat) (st : Sto) (a d : Int), 0 < d → d.natAbs < 2 ^ 8000 → callN p (n + 1) l [.int a, .int d] st = .ok (fA (red a d)) st
theorem low_red (hp : p f = some ⟨2, 4, .gen, lowB fu⟩) (hf : 2 ^ 8001 ≤ fu) : RedF p f := ⟨fun n st a d h1 h2 => by
  have hl := bd_log h2
  rw [Nat.pow_succ] at hf
  exact low_ok hp h1 (by omega) (by omega)⟩
def fracB : Ss := .cons (.asg (.name 2) (.cond (.p2 fGtI (.var 1) (.c (.int 0))) (.pn fGcd (.cons (.var 0) (.cons (.var 1) .nil))) (.p1 fNeg (.pn fGcd (.cons (.var 0) (.cons (.var 1) .nil)))))) (.cons (.ret (.pn fTup (.cons (.p2 fDiv (.var 0) (.var 2)) (.cons (.p2 fDiv (.var 1) (.var 2)) .nil)))) .nil)
theorem frac_red (hp : p f = some ⟨2, 3, .gen, fracB⟩) : RedF p f := ⟨fun n st a d hd h2 => by
  have hg := gcd_pp (a := a) hd
  have hgl : ((Int.gcd a d : Nat) : Int).natAbs.log2 < 9000 := by
    have hle : Int.gcd a d ≤ d.natAbs := Nat.le_of_dvd (by omega) (Nat.gcd_dvd_right a.natAbs d.natAbs)
    have := bd_log (i := (Int.gcd a d : Int)) (B := 8000) (by rw [Int.natAbs_natCast]; omega)
    omega
  rw [call_gen hp]
  unfold fracB
  have e : ∀ s, fGcd [.int a, .int d] s = .ok (.int (Int.gcd a d : Int)) s := fun s => rfl
  unfold red fA
  generalize (Int.gcd a d : Int) = G at *
  simp [e, hd, hg, hgl]⟩
def minusB (l : Nat) : Ss := .cons (.ret (.call l [] (.cons (.p2 fSub (.p2 fMul (.p2 fIx (.var 0) (.c (.int 0))) (.p2 fIx (.var 1) (.c (.int 1)))) (.p2 fMul (.p2 fIx (.var 1) (.c (.int 0))) (.p2 fIx (.var 0) (.c (.int 1))))) (.cons (.p2 fMul (.p2 fIx (.var 0) (.c (.int 1))) (.p2 fIx (.var 1) (.c (.int 1)))) .nil)))) .nil
def overB (l : Nat) : Ss := .cons (.ret (.call l [] (.cons (.p2 fMul (.p2 fIx (.var 0) (.c (.int 0))) (.p2 fIx (.var 1) (.c (.int 1)))) (.cons (.p2 fMul (.p2 fIx (.var 0) (.c (.int 1))) (.p2 fIx (.var 1) (.c (.int 0)))) .nil)))) .nil
theorem lg_mul {a b : Int} {A B : Nat} (ha : a.natAbs < 2 ^ A) (hb : b.natAbs < 2 ^ B) (h : A + B ≤ 7000) : a.natAbs.log2 + b.natAbs.log2 < 1000000 := by
  have h1 := bd_log ha
  have h2 := bd_log hb
  omega
theorem pl_fn (hp : p f = some ⟨2, 2, .gen, plusB l⟩) (hl : RedF p l) (hx : Fr BA x) (hy : Fr BB y) (h : BA + BB ≤ 7000) : callN p (n + 2) f [fA x, fA y] st = .ok (fA (pl x y)) st := by
  rw [call_gen hp]
  unfold plusB
  have m1 := lg_mul hx.n hy.d h
  have m2 := lg_mul hy.n hx.d (by omega)
  have m3 := lg_mul hx.d hy.d h
  have e := hl.ok n st (x.1 * y.2 + y.1 * x.2) (x.2 * y.2) (Int.mul_pos hx.p hy.p) (bd_mono (bd_mul hx.d hy.d) (by omega))
  unfold pl
  generalize red (x.1 * y.2 + y.1 * x.2) (x.2 * y.2) = R at *
  generalize hz1 : x.1 * y.2 = z1 at *
  generalize hz2 : y.1 * x.2 = z2 at *
  generalize hz3 : x.2 * y.2 = z3 at *
  simp [m1, m2, m3, hz1, hz2, hz3, e]
theorem mi_fn (hp : p f = some ⟨2, 2, .gen, minusB l⟩) (hl : RedF p l) (hx : Fr BA x) (hy : Fr BB y) (h : BA + BB ≤ 7000) : callN p (n + 2) f [fA x, fA y] st = .ok (fA (mi x y)) st := by
  rw [call_gen hp]
  unfold minusB
  have m1 := lg_mul hx.n hy.d h
  have m2 := lg_mul hy.n hx.d (by omega)
  have m3 := lg_mul hx.d hy.d h
  have e := hl.ok n st (x.1 * y.2 - y.1 * x.2) (x.2 * y.2) (Int.mul_pos hx.p hy.p) (bd_mono (bd_mul hx.d hy.d) (by omega))
  unfold mi
  generalize red (x.1 * y.2 - y.1 * x.2) (x.2 * y.2) = R at *
  generalize hz1 : x.1 * y.2 = z1 at *
  generalize hz2 : y.1 * x.2 = z2 at *
  generalize hz3 : x.2 * y.2 = z3 at *
  simp [m1, m2, m3, hz1, hz2, hz3, e]
theorem ti_fn (hp : p f = some ⟨2, 2, .gen, timesB l⟩) (hl : RedF p l) (hx : Fr BA x) (hy : Fr BB y) (h : BA + BB ≤ 7000) : callN p (n + 2) f [fA x, fA y] st = .ok (fA (ti x y)) st := by
  rw [call_gen hp]
  unfold timesB
  have m1 := lg_mul hx.n hy.n h
  have m3 := lg_mul hx.d hy.d h
  have e := hl.ok n st (x.1 * y.1) (x.2 * y.2) (Int.mul_pos hx.p hy.p) (bd_mono (bd_mul hx.d hy.d) (by omega))
  unfold ti
  generalize red (x.1 * y.1) (x.2 * y.2) = R at *
  generalize hz1 : x.1 * y.1 = z1 at *
  generalize hz3 : x.2 * y.2 = z3 at *
  simp [m1, m3, hz1, hz3, e]
theorem ov_fn (hp : p f = some ⟨2, 2, .gen, overB l⟩) (hl : RedF p l) (hx : Fr BA x) (hy : Fr BB y) (h0 : 0 < y.1) (h : BA + BB ≤ 7000) : callN p (n + 2) f [fA x, fA y] st = .ok (fA (ov x y)) st := by
  rw [call_gen hp]
  unfold overB
  have m1 := lg_mul hx.n hy.d h
  have m3 := lg_mul hx.d hy.n h
  have e := hl.ok n st (x.1 * y.2) (x.2 * y.1) (Int.mul_pos hx.p h0) (bd_mono (bd_mul hx.d hy.n) (by omega))
  unfold ov
  generalize red (x.1 * y.2) (x.2 * y.1) = R at *
  generalize hz1 : x.1 * y.2 = z1 at *
  generalize hz3 : x.2 * y.1 = z3 at *
  simp [m1, m3, hz1, hz3, e]
/-- which is greater -/
def orderB : Ss := .cons (.asg (.tup [.name 2, .name 3]) (.pn fTup (.cons (.p2 fMul (.p2 fIx (.var 0) (.c (.int 0))) (.p2 fIx (.var 1) (.c (.int 1)))) (.cons (.p2 fMul (.p2 fIx (.var 1) (.c (.int 0))) (.p2 fIx (.var 0) (.c (.int 1)))) .nil)))) (.cons (.ret (.p2 fSub (.pn fIntC (.cons (.p2 fGtI (.var 2) (.var 3)) .nil)) (.pn fIntC (.cons (.p2 fLtI (.var 2) (.var 3)) .nil)))) .nil)
def ordq (x y : Fq) : Int := (if y.1 * x.2 < x.1 * y.2 then 1 else 0) - (if x.1 * y.2 < y.1 * x.2 then 1 else 0)
theorem ordq_le {x y : Fq} : ordq x y ≤ 0 ↔ x.1 * y.2 ≤ y.1 * x.2 := by
  unfold ordq
  split <;> split <;> omega
theorem ordq_ge {x y : Fq} : 0 ≤ ordq x y ↔ y.1 * x.2 ≤ x.1 * y.2 := by
  unfold ordq
  split <;> split <;> omega
theorem ordq_lt {x y : Fq} : ordq x y < 0 ↔ x.1 * y.2 < y.1 * x.2 := by
  unfold ordq
  split <;> split <;> omega
theorem ordq_gt {x y : Fq} : 0 < ordq x y ↔ y.1 * x.2 < x.1 * y.2 := by
  unfold ordq
  split <;> split <;> omega
theorem lg_mul2 {a b : Int} {A B : Nat} (ha : a.natAbs < 2 ^ A) (hb : b.natAbs < 2 ^ B) (h : A + B ≤ 900000) : a.natAbs.log2 + b.natAbs.log2 < 1000000 := by
  have h1 := bd_log ha
  have h2 := bd_log hb
  omega
theorem order_fn (hp : p f = some ⟨2, 4, .gen, orderB⟩) (hx : Fr BA x) (hy : Fr BB y) (h : BA + BB ≤ 900000) : callN p (n + 1) f [fA x, fA y] st = .ok (.int (ordq x y)) st := by
  rw [call_gen hp]
  unfold orderB ordq
  have m1 := lg_mul2 hx.n hy.d h
  have m2 := lg_mul2 hy.n hx.d (by omega)
  generalize hz1 : x.1 * y.2 = z1 at *
  generalize hz2 : y.1 * x.2 = z2 at *
  simp [m1, m2, hz1, hz2]
def lessB : Ss := .cons (.ret (.p2 fLtI (.p2 fMul (.p2 fIx (.var 0) (.c (.int 0))) (.p2 fIx (.var 1) (.c (.int 1)))) (.p2 fMul (.p2 fIx (.var 1) (.c (.int 0))) (.p2 fIx (.var 0) (.c (.int 1)))))) .nil
theorem less_fn (hp : p f = some ⟨2, 2, .gen, lessB⟩) (hx : Fr BA x) (hy : Fr BB y) (h : BA + BB ≤ 900000) : callN p (n + 1) f [fA x, fA y] st = .ok (.bl (decide (x.1 * y.2 < y.1 * x.2))) st := by
  rw [call_gen hp]
  unfold lessB
  have m1 := lg_mul2 hx.n hy.d h
  have m2 := lg_mul2 hy.n hx.d (by omega)
  generalize hz1 : x.1 * y.2 = z1 at *
  generalize hz2 : y.1 * x.2 = z2 at *
  simp [m1, m2, hz1, hz2]
/-! powers by squares -/
def wpL (fu : Nat) : S := .whl fu (.p2 fGtI (.var 4) (.c (.int 0))) (.cons (.asg (.name 2) (.cond (.p2 fEq (.p2 fMod (.var 4) (.c (.int 2))) (.c (.int 1))) (.p2 fMul (.var 2) (.var 3)) (.var 2))) (.cons (.asg (.name 4) (.p2 fDiv (.var 4) (.c (.int 2)))) (.cons (.asg (.name 3) (.cond (.p2 fGtI (.var 4) (.c (.int 0))) (.p2 fMul (.var 3) (.var 3)) (.var 3))) .nil)))
def wpB (fu : Nat) : Ss := .cons (.asg (.tup [.name 2, .name 3, .name 4]) (.pn fTup (.cons (.c (.int 1)) (.cons (.var 0) (.cons (.var 1) .nil))))) (.cons (wpL fu) (.cons (.ret (.var 2)) .nil))
theorem lg_pow {a : Int} {B k m : Nat} (h : a.natAbs < 2 ^ B) (hk : k ≤ m) : (a ^ k).natAbs.log2 ≤ B * m := by
  rw [Int.natAbs_pow]
  exact Nat.le_trans (log2_pow_le h k) (Nat.mul_le_mul_left _ hk)
theorem wp_fn {a k : Int} {B M : Nat} (hp : p f = some ⟨2, 5, .gen, wpB fu⟩) (h0 : 0 ≤ k) (hk : k.toNat ≤ M) (ha : a.natAbs < 2 ^ B) (hB : B * M < 400000) (hf : M + 2 ≤ fu) : callN p (n + 1) f [.int a, .int k] st = .ok (.int (a ^ k.toNat)) st := by
  rw [call_gen hp]
  unfold wpB
  have key : ∀ (C : CallT) (env : En), env = [some (.int a), some (.int k), some (.int 1), some (.int a), some (.int k)] → (evS C (wpL fu) env st).is
      (fun e s => (∃ t u, e = [some (.int a), some (.int k), some (.int (a ^ k.toNat)), t, u]) ∧ s = st) (fun _ _ => False) noE noE := by
    intro C env he
    unfold wpL
    refine whl_is (fun e s => s = st ∧ ∃ (x y z : Int) (i j : Nat), e = [some (.int a), some (.int k), some (.int x), some (.int y), some (.int z)] ∧ 0 ≤ z ∧ x = a ^ i ∧ (0 < z → y = a ^ j) ∧ (i : Int) + j * z = k) (fun e _ => match e with
      | [_, _, _, _, some (.int z)] => z.natAbs
      | _ => 0) ?_ ⟨rfl, 1, a, k, 0, 1, he, h0, (Int.pow_zero a).symm, (fun _ => by rw [Int.pow_succ, Int.pow_zero, Int.one_mul]), by omega⟩ ?_
    · intro e s hh
      obtain ⟨hs, x, y, z, i, j, he1, hz, hx, hy, hij⟩ := hh
      subst hs
      refine ⟨decide (0 < z), s, by simp [he1], fun h => ?_, fun h => ?_⟩
      · have hz0 : z = 0 := by have := of_decide_eq_false h; omega
        have hi : i = k.toNat := by
          rw [hz0] at hij
          simp at hij
          omega
        exact ⟨⟨some (.int y), some (.int z), he1.trans (by rw [hx, hi])⟩, rfl⟩
      · have hz0 : 0 < z := of_decide_eq_true h
        have hy := hy hz0
        have hij2 : i + j ≤ M := by
          have : (j : Int) * 1 ≤ j * z := Int.mul_le_mul_of_nonneg_left (by omega) (by omega)
          omega
        have lx : x.natAbs.log2 ≤ B * M := by rw [hx]; exact lg_pow ha (by omega)
        have ly : y.natAbs.log2 ≤ B * M := by rw [hy]; exact lg_pow ha (by omega)
        have m1 : x.natAbs.log2 + y.natAbs.log2 < 1000000 := by omega
        have m2 : y.natAbs.log2 + y.natAbs.log2 < 1000000 := by omega
        have l2 : Nat.log2 2 < 9000 := by decide
        have hb : evSs C (.cons (.asg (.name 2) (.cond (.p2 fEq (.p2 fMod (.var 4) (.c (.int 2))) (.c (.int 1))) (.p2 fMul (.var 2) (.var 3)) (.var 2))) (.cons (.asg (.name 4) (.p2 fDiv (.var 4) (.c (.int 2)))) (.cons (.asg (.name 3) (.cond (.p2 fGtI (.var 4) (.c (.int 0))) (.p2 fMul (.var 3) (.var 3)) (.var 3))) .nil))) e s =
            .nx [some (.int a), some (.int k), some (.int (if z % 2 = 1 then x * y else x)), some (.int (if 0 < z / 2 then y * y else y)), some (.int (z / 2))] s := by
          rw [he1]
          by_cases c1 : z % 2 = 1
          · by_cases c2 : 0 < z / 2
            · simp [c1, c2, m1, m2, l2]
            · simp [c1, c2, m1, m2, l2]
          · by_cases c2 : 0 < z / 2
            · simp [c1, c2, m1, m2, l2]
            · simp [c1, c2, m1, m2, l2]
        rw [hb, SO.is_nx]
        refine ⟨⟨rfl, _, _, _, if z % 2 = 1 then i + j else i, j + j, rfl, by omega, ?_, ?_, ?_⟩, ?_⟩
        · by_cases c1 : z % 2 = 1
          · rw [if_pos c1, if_pos c1, hx, hy, Int.pow_add]
          · rw [if_neg c1, if_neg c1, hx]
        · intro h2
          rw [if_pos h2, hy, Int.pow_add]
        · have e2 : z = 2 * (z / 2) + z % 2 := by omega
          generalize z / 2 = w at e2 ⊢
          by_cases c1 : z % 2 = 1
          · rw [if_pos c1]
            rw [c1] at e2
            rw [e2] at hij
            push_cast
            grind
          · rw [if_neg c1]
            have c2 : z % 2 = 0 := by omega
            rw [c2] at e2
            rw [e2] at hij
            push_cast
            grind
        · rw [he1]
          show (z / 2).natAbs < z.natAbs
          omega
    · rw [he]
      show k.natAbs < fu
      omega
  generalize wpL fu = fs at key ⊢
  obtain ⟨e, s, he, ⟨t, u, rfl⟩, rfl⟩ := SO.is_one (key (callN p n) _ rfl)
  simp [he]
def powB (w : Nat) : Ss := .cons (.ret (.pn fTup (.cons (.call w [] (.cons (.p2 fIx (.var 0) (.c (.int 0))) (.cons (.var 1) .nil))) (.cons (.call w [] (.cons (.p2 fIx (.var 0) (.c (.int 1))) (.cons (.var 1) .nil))) .nil)))) .nil
def pwq (x : Fq) (k : Nat) : Fq := (x.1 ^ k, x.2 ^ k)
theorem pow_fn {w : Nat} {k : Int} {B M : Nat} (hp : p f = some ⟨2, 2, .gen, powB w⟩) (hw : p w = some ⟨2, 5, .gen, wpB fu⟩) (h0 : 0 ≤ k) (hk : k.toNat ≤ M) (hx : Fr B x) (hB : B * M < 400000) (hf : M + 2 ≤ fu) : callN p (n + 2) f [fA x, .int k] st = .ok (fA (pwq x k.toNat)) st := by
  rw [call_gen hp]
  unfold powB pwq fA
  have e1 := fun st => wp_fn (n := n) (st := st) hw h0 hk hx.n hB hf
  have e2 := fun st => wp_fn (n := n) (st := st) hw h0 hk hx.d hB hf
  generalize x.1 ^ k.toNat = u at *
  generalize x.2 ^ k.toNat = v at *
  simp [e1, e2]
def lpowL : S := .for_ itRange (.cons (.var 1) .nil) (.name 4) (.cons (.asg (.tup [.name 2, .name 3]) (.pn fTup (.cons (.p2 fMul (.var 2) (.p2 fIx (.var 0) (.c (.int 0)))) (.cons (.p2 fMul (.var 3) (.p2 fIx (.var 0) (.c (.int 1)))) .nil)))) .nil)
def lpowB : Ss := .cons (.asg (.tup [.name 2, .name 3]) (.pn fTup (.cons (.c (.int 1)) (.cons (.c (.int 1)) .nil)))) (.cons lpowL (.cons (.ret (.pn fTup (.cons (.var 2) (.cons (.var 3) .nil)))) .nil))
theorem lpow_fn {k : Int} {B : Nat} (hp : p f = some ⟨2, 5, .gen, lpowB⟩) (h0 : 0 ≤ k) (hk : k ≤ 1000) (hx : Fr B x) (hB : B * 1001 < 900000) : callN p (n + 1) f [fA x, .int k] st = .ok (fA (pwq x k.toNat)) st := by
  rw [call_gen hp]
  unfold lpowB
  have key : ∀ (C : CallT) (env : En), env = [some (fA x), some (.int k), some (.int 1), some (.int 1), none] → (evS C lpowL env st).is
      (fun e s => (∃ t, e = [some (fA x), some (.int k), some (.int (x.1 ^ k.toNat)), some (.int (x.2 ^ k.toNat)), t]) ∧ s = st) (fun _ _ => False) noE noE := by
    intro C env he
    have hes : evEs C (.cons (.var 1) .nil) env st = .ok [.int k] st := by simp [he]
    unfold lpowL
    refine for_rng (lo := 0) (n := k.toNat) (fun i e s => (∃ t, e = [some (fA x), some (.int k), some (.int (x.1 ^ i)), some (.int (x.2 ^ i)), t]) ∧ s = st) hes (itRange_one (by omega) (by omega)) ⟨⟨none, by rw [Int.pow_zero, Int.pow_zero]; exact he⟩, rfl⟩ ?_ ?_
    · intro i e s hi hh
      obtain ⟨⟨t, he1⟩, hs⟩ := hh
      have hl : ∀ {a : Int}, a.natAbs < 2 ^ B → (a ^ i).natAbs.log2 + a.natAbs.log2 < 1000000 := fun {a} ha => by
        have h1 := log2_pow_le ha i
        have h2 := log2_pow_le ha 1
        rw [Int.natAbs_pow]
        rw [Nat.pow_one] at h2
        have h3 : B * i ≤ B * 1000 := Nat.mul_le_mul_left _ (by omega)
        omega
      have l1 := hl hx.n
      have l2 := hl hx.d
      generalize hz1 : x.1 ^ i = z1 at l1 he1
      generalize hz2 : x.2 ^ i = z2 at l2 he1
      generalize hxx : (0 + (i : Int)) = xx
      have hb : evSs C (.cons (.asg (.tup [.name 2, .name 3]) (.pn fTup (.cons (.p2 fMul (.var 2) (.p2 fIx (.var 0) (.c (.int 0)))) (.cons (.p2 fMul (.var 3) (.p2 fIx (.var 0) (.c (.int 1)))) .nil)))) .nil) [some (fA x), some (.int k), some (.int z1), some (.int z2), some (.int xx)] s = .nx [some (fA x), some (.int k), some (.int (z1 * x.1)), some (.int (z2 * x.2)), some (.int xx)] s := by
        simp [l1, l2]
      rw [he1]
      simp only [T.put, List.set]
      rw [hb, SO.is_nx]
      exact ⟨⟨_, by rw [Int.pow_succ, Int.pow_succ, hz1, hz2]⟩, hs⟩
    · exact fun e s h => h
  generalize lpowL = fs at key ⊢
  obtain ⟨e, s, he, ⟨t, rfl⟩, rfl⟩ := SO.is_one (key (callN p n) _ rfl)
  simp [he]
  rfl
/-! powers by a loop -/
theorem raised_fn {a k : Int} {B M : Nat} (hp : p f = some ⟨2, 4, .gen, raisedB⟩) (h0 : 0 ≤ k) (hk : k.toNat ≤ M) (hM : M ≤ 100000) (ha : a.natAbs < 2 ^ B) (hB : B * (M + 1) < 900000) : callN p (n + 1) f [.int a, .int k] st = .ok (.int (a ^ k.toNat)) st := by
  rw [call_gen hp]
  unfold raisedB
  have key : ∀ (C : CallT) (env : En), env = [some (.int a), some (.int k), some (.int 1), none] → (evS C (.for_ itRange (.cons (.var 1) .nil) (.name 3) (.cons (.asg (.name 2) (.p2 fMul (.var 2) (.var 0))) .nil)) env st).is
      (fun e s => (∃ t, e = [some (.int a), some (.int k), some (.int (a ^ k.toNat)), t]) ∧ s = st) (fun _ _ => False) noE noE := by
    intro C env he
    have hes : evEs C (.cons (.var 1) .nil) env st = .ok [.int k] st := by simp [he]
    refine for_rng (lo := 0) (n := k.toNat) (fun i e s => (∃ t, e = [some (.int a), some (.int k), some (.int (a ^ i)), t]) ∧ s = st) hes (itRange_one (by omega) (by omega)) ⟨⟨none, by rw [Int.pow_zero]; exact he⟩, rfl⟩ ?_ ?_
    · intro i e s hi hh
      obtain ⟨⟨t, he1⟩, hs⟩ := hh
      have hl : (a ^ i).natAbs.log2 + a.natAbs.log2 < 1000000 := by
        have h1 := log2_pow_le ha i
        have h2 := log2_pow_le ha 1
        rw [Int.natAbs_pow]
        rw [Nat.pow_one] at h2
        have h3 : B * i ≤ B * M := Nat.mul_le_mul_left _ (by omega)
        rw [Nat.mul_add] at hB
        omega
      generalize hz : a ^ i = z at hl he1
      generalize hx : (0 + (i : Int)) = x
      have hb : evSs C (.cons (.asg (.name 2) (.p2 fMul (.var 2) (.var 0))) .nil) [some (.int a), some (.int k), some (.int z), some (.int x)] s = .nx [some (.int a), some (.int k), some (.int (z * a)), some (.int x)] s := by
        simp [hl]
      rw [he1]
      simp only [T.put, List.set]
      rw [hb, SO.is_nx]
      exact ⟨⟨_, by rw [Int.pow_succ, hz]⟩, hs⟩
    · exact fun e s h => h
  generalize S.for_ itRange (.cons (.var 1) .nil) (.name 3) (.cons (.asg (.name 2) (.p2 fMul (.var 2) (.var 0))) .nil) = fs at key ⊢
  obtain ⟨e, s, he, ⟨t, rfl⟩, rfl⟩ := SO.is_one (key (callN p n) _ rfl)
  simp [he]
/-! whole roots -/
def rootL1 (w fu : Nat) : S := .whl fu (.p2 fLeI (.call w [] (.cons (.var 3) (.cons (.var 1) .nil))) (.var 0)) (.cons (.asg (.tup [.name 2, .name 3]) (.pn fTup (.cons (.var 3) (.cons (.p2 fMul (.c (.int 2)) (.var 3)) .nil)))) .nil)
def rootL2 (w fu : Nat) : S := .whl fu (.p2 fGtI (.p2 fSub (.var 3) (.var 2)) (.c (.int 1))) (.cons (.asg (.name 4) (.p2 fDiv (.p2 fAdd (.var 2) (.var 3)) (.c (.int 2)))) (.cons (.ite (.p2 fLeI (.call w [] (.cons (.var 4) (.cons (.var 1) .nil))) (.var 0)) (.cons (.asg (.name 2) (.var 4)) .nil) (.cons (.asg (.name 3) (.var 4)) .nil)) .nil))
def rootB (w fu : Nat) : Ss := .cons (.asg (.tup [.name 2, .name 3]) (.pn fTup (.cons (.c (.int 0)) (.cons (.c (.int 1)) .nil)))) (.cons (rootL1 w fu) (.cons (rootL2 w fu) (.cons (.ret (.var 2)) .nil)))
theorem le_pow_self {a : Int} (h : 0 ≤ a) {k : Nat} (hk : 0 < k) : a ≤ a ^ k := by
  obtain ⟨j, rfl⟩ : ∃ j, k = j + 1 := ⟨k - 1, by omega⟩
  rcases Int.lt_or_le 0 a with h1 | h1
  · rw [Int.pow_succ]
    have h2 : 0 < a ^ j := Int.pow_pos h1
    have h3 := Int.mul_le_mul_of_nonneg_right (show 1 ≤ a ^ j by omega) h
    omega
  · have : a = 0 := by omega
    subst this
    rw [Int.zero_pow (by omega)]
    exact Int.le_refl _
/-- the whole root: r^k ≤ N < (r + 1)^k -/
theorem root_fn {w : Nat} {N k : Int} {B : Nat} (hp : p f = some ⟨2, 5, .gen, rootB w fu⟩) (hw : p w = some ⟨2, 5, .gen, wpB fu⟩) (hk : 1 ≤ k ∧ k ≤ 30) (hN : 0 ≤ N) (hB : N.natAbs < 2 ^ B) (hB2 : B ≤ 7000) (hf : 2 ^ (B + 2) + 100 ≤ fu) :
    ∃ r, callN p (n + 2) f [.int N, .int k] st = .ok (.int r) st ∧ 0 ≤ r ∧ r ≤ N ∧ r ^ k.toNat ≤ N ∧ N < (r + 1) ^ k.toNat := by
  rw [call_gen hp]
  unfold rootB
  have hkt : 0 < k.toNat := by omega
  have hNB : N < 2 ^ B := by
    have h1 : (N.natAbs : Int) = N := Int.natAbs_of_nonneg hN
    have h2 : (N.natAbs : Int) < ((2 ^ B : Nat) : Int) := by exact_mod_cast hB
    rw [h1] at h2
    exact_mod_cast h2
  have hfI : 4 * N + 100 ≤ (fu : Int) := by
    have h2 : ((2 ^ (B + 2) + 100 : Nat) : Int) ≤ (fu : Int) := by exact_mod_cast hf
    push_cast at h2
    rw [show B + 2 = B + 1 + 1 from rfl, Int.pow_succ, Int.pow_succ] at h2
    omega
  have wp : ∀ (st : Sto) (h : Int), 0 ≤ h → h ≤ 2 * N + 1 → callN p (n + 1) w [.int h, .int k] st = .ok (.int (h ^ k.toNat)) st := fun st h h1 h2 => by
    have hb : h.natAbs < 2 ^ (B + 2) := by
      rw [show B + 2 = B + 1 + 1 from rfl, Nat.pow_succ, Nat.pow_succ]
      omega
    exact wp_fn (M := 30) hw (by omega) (by omega) hb (by omega) (by omega)
  have k1 : ∀ env, env = [some (.int N), some (.int k), some (.int 0), some (.int 1), none] → (evS (callN p (n + 1)) (rootL1 w fu) env st).is
      (fun e s => s = st ∧ ∃ lo hi, e = [some (.int N), some (.int k), some (.int lo), some (.int hi), none] ∧ 0 ≤ lo ∧ lo < hi ∧ hi ≤ 2 * N + 1 ∧ lo ^ k.toNat ≤ N ∧ N < hi ^ k.toNat) (fun _ _ => False) noE noE := by
    intro env he
    unfold rootL1
    refine whl_is (fun e s => s = st ∧ ∃ lo hi, e = [some (.int N), some (.int k), some (.int lo), some (.int hi), none] ∧ 0 ≤ lo ∧ lo < hi ∧ hi ≤ 2 * N + 1 ∧ lo ^ k.toNat ≤ N) (fun e _ => match e with
      | [_, _, _, some (.int z), _] => (2 * N + 2 - z).toNat
      | _ => 0) ?_ ⟨rfl, 0, 1, he, by omega, by omega, by omega, by rw [Int.zero_pow (by omega)]; exact hN⟩ ?_
    · intro e s hh
      obtain ⟨rfl, lo, hi, rfl, h1, h2, h3, h4⟩ := hh
      have ew := wp s hi (by omega) h3
      refine ⟨decide (hi ^ k.toNat ≤ N), s, ?_, fun h => ?_, fun h => ?_⟩
      · generalize hi ^ k.toNat = Z at *
        simp [ew]
      · exact ⟨rfl, lo, hi, rfl, h1, h2, h3, h4, by have := of_decide_eq_false h; omega⟩
      · have hle := of_decide_eq_true h
        have hh1 := le_pow_self (show 0 ≤ hi by omega) hkt
        have lh : hi.natAbs.log2 ≤ B + 2 := bd_log (by rw [show B + 2 = B + 1 + 1 from rfl, Nat.pow_succ, Nat.pow_succ]; omega)
        have l2 : Nat.log2 2 = 1 := by decide
        have m1 : Nat.log2 2 + hi.natAbs.log2 < 1000000 := by omega
        simp [m1]
        refine ⟨⟨hi, 2 * hi, ⟨rfl, rfl⟩, by omega, by omega, by omega, hle⟩, ?_⟩
        omega
    · rw [he]
      show (2 * N + 2 - 1).toNat < fu
      omega
  have k2 : ∀ env lo hi, env = [some (.int N), some (.int k), some (.int lo), some (.int hi), none] → 0 ≤ lo → lo < hi → hi ≤ 2 * N + 1 → lo ^ k.toNat ≤ N → N < hi ^ k.toNat → (evS (callN p (n + 1)) (rootL2 w fu) env st).is
      (fun e s => s = st ∧ ∃ lo hi m, e = [some (.int N), some (.int k), some (.int lo), hi, m] ∧ 0 ≤ lo ∧ lo ^ k.toNat ≤ N ∧ N < (lo + 1) ^ k.toNat) (fun _ _ => False) noE noE := by
    intro env lo hi he h1 h2 h3 h4 h5
    unfold rootL2
    refine whl_is (fun e s => s = st ∧ ∃ lo hi m, e = [some (.int N), some (.int k), some (.int lo), some (.int hi), m] ∧ 0 ≤ lo ∧ lo < hi ∧ hi ≤ 2 * N + 1 ∧ lo ^ k.toNat ≤ N ∧ N < hi ^ k.toNat) (fun e _ => match e with
      | [_, _, some (.int y), some (.int z), _] => (z - y).toNat
      | _ => 0) ?_ ⟨rfl, lo, hi, none, he, h1, h2, h3, h4, h5⟩ ?_
    · intro e s hh
      obtain ⟨rfl, lo, hi, m, rfl, h1, h2, h3, h4, h5⟩ := hh
      refine ⟨decide (1 < hi - lo), s, by simp, fun h => ?_, fun h => ?_⟩
      · have hd := of_decide_eq_false h
        have : hi = lo + 1 := by omega
        subst this
        exact ⟨rfl, lo, some (.int (lo + 1)), m, rfl, h1, h4, h5⟩
      · have hd := of_decide_eq_true h
        have l29 : Nat.log2 2 < 9000 := by decide
        have hm1 : lo < (lo + hi) / 2 := by omega
        have hm2 : (lo + hi) / 2 < hi := by omega
        generalize hmm : (lo + hi) / 2 = m at *
        have ew := fun st => wp st m (by omega) (by omega)
        by_cases hc : m ^ k.toNat ≤ N
        · generalize hZ : m ^ k.toNat = Z at *
          simp [l29, hmm, ew, hc]
          exact ⟨⟨m, hi, ⟨rfl, rfl⟩, by omega, by omega, h3, by omega, h5⟩, by omega⟩
        · generalize hZ : m ^ k.toNat = Z at *
          simp [l29, hmm, ew, hc]
          exact ⟨⟨lo, m, ⟨rfl, rfl⟩, by omega, by omega, by omega, h4, by omega⟩, by omega⟩
    · rw [he]
      show (hi - lo).toNat < fu
      omega
  generalize rootL1 w fu = f1 at k1 ⊢
  generalize rootL2 w fu = f2 at k2 ⊢
  obtain ⟨ea, sa, hea, rfl, lo, hi, rfl, h1, h2, h3, h4, h5⟩ := SO.is_one (k1 _ rfl)
  obtain ⟨eb, sb, heb, rfl, lo', hi', m', rfl, h1', h4', h5'⟩ := SO.is_one (k2 _ lo hi rfl h1 h2 h3 h4 h5)
  refine ⟨lo', ?_, h1', ?_, h4', h5'⟩
  · simp [hea, heb]
  · exact Int.le_trans (le_pow_self h1' hkt) h4'
end
end MP

/-! Loops over lists and tuples (own work). -/
namespace MP
open PySem PySem.Spec PyProof.Rows L2
section
variable {N N' : En → Sto → Prop} {R R' : A → Sto → Prop} {env : En} {st : Sto}
theorem forL_seq {it : It} {xs : List A} {body : A → En → Sto → SO} (Inv : Nat → En → Sto → Prop) (hat : ∀ i env st, Inv i env st → it.at i st = some xs[i]?)
    (hs : ∀ i env st x, xs[i]? = some x → Inv i env st → (body x env st).is (Inv (i + 1)) R N (Inv (i + 1))) (he : ∀ env st, Inv xs.length env st → N env st) :
    ∀ (m i : Nat) (env : En) (st : Sto), i + m = xs.length + 1 → i ≤ xs.length → Inv i env st → (forL it body m i env st).is N R noE noE
  | 0, i, env, st, h, h2, _ => by omega
  | m + 1, i, env, st, h, h2, hi => by
    unfold forL
    rw [hat i env st hi]
    by_cases hl : i < xs.length
    · have hx : xs[i]? = some xs[i] := List.getElem?_eq_some_iff.mpr ⟨hl, rfl⟩
      rw [hx]
      dsimp only
      have := hs i env st _ hx hi
      revert this
      cases body xs[i] env st with
      | nx e s => exact fun q => forL_seq Inv hat hs he m (i + 1) e s (by omega) (by omega) q.out
      | ct e s => exact fun q => forL_seq Inv hat hs he m (i + 1) e s (by omega) (by omega) q.out
      | bk e s => exact fun q => ⟨q.out⟩
      | rt a s => exact fun q => ⟨q.out⟩
      | ex _ _ _ _ => exact fun q => q.out.elim
      | bad => exact fun q => q.out.elim
    · have h3 : i = xs.length := by omega
      rw [show xs[i]? = none from List.getElem?_eq_none (by omega)]
      subst h3
      exact ⟨he env st hi⟩
theorem for_seq {C : CallT} {itf : List A → Sto → Rs It} {es : Es} {t : T} {b : Ss} {it : It} {ys xs : List A} {st1 : Sto} (Inv : Nat → En → Sto → Prop) (hes : evEs C es env st = .ok ys st1) (hit : itf ys st1 = .ok it st1) (hl : it.len st1 = xs.length) (h0 : Inv 0 env st1) (hat : ∀ i env st, Inv i env st → it.at i st = some xs[i]?)
    (hs : ∀ i env st x, xs[i]? = some x → Inv i env st → (match t.put x env st with
        | some env' => evSs C b env' st
        | none => .bad : SO).is (Inv (i + 1)) R N (Inv (i + 1))) (he : ∀ env st, Inv xs.length env st → N env st) : (evS C (.for_ itf es t b) env st).is N R noE noE := by
  rw [evS, hes, Rs.toS_ok, hit, Rs.toS_ok, hl]
  exact forL_seq Inv hat hs he (xs.length + 1) 0 env st1 (by omega) (Nat.zero_le _) h0
@[simp] theorem itSeq_tup (xs : List A) : itSeq [.tup xs] st = .ok (.tup xs) st := rfl
theorem itSeq_lst {l : Nat} {xs : List A} (h : st[l]? = some (.lst xs)) : itSeq [.ref l] st = .ok (.lst l) st := by
  unfold itSeq
  dsimp only
  rw [h]
end
/-- a comprehension over two -/
theorem comp_two {C : CallT} {env : En} {own : List Nat} {es : Es} {t : T} {c e : E} {u v a b : A} {st st1 : Sto} (hes : evEs C es env st = .ok [.tup [u, v]] st1)
    (hb : ∀ x y, (x = u ∧ y = a) ∨ (x = v ∧ y = b) → (match t.put x (wipeE env own) st1 with
        | some env' => ((evE C c env' st1).bind asB).bind fun k st' => if k then (evE C e env' st').bind fun y st'' => .ok (some y) st'' else .ok none st'
        | none => .bad : Rs (Option A)) = .ok (some y) st1) :
    evE C (.comp own itSeq es t c e) env st = .ok (.ref st1.length) (st1 ++ [.lst [a, b]]) := by
  rw [evE, hes, Rs.bind_ok, itSeq_tup, Rs.bind_ok]
  have h1 := hb u a (.inl ⟨rfl, rfl⟩)
  have h2 := hb v b (.inr ⟨rfl, rfl⟩)
  have hl : lenOk ((It.tup [u, v]).len st1) = true := rfl
  rw [if_neg (by rw [hl]; decide)]
  have e1 : compL (It.tup [u, v]) (fun x st => match t.put x (wipeE env own) st with
        | some env' => ((evE C c env' st).bind asB).bind fun k st' => if k then (evE C e env' st').bind fun y st'' => .ok (some y) st'' else .ok none st'
        | none => .bad) ((It.tup [u, v]).len st1 + 1) 0 [] st1 = .ok [a, b] st1 := by
    show compL (It.tup [u, v]) _ (2 + 1) 0 [] st1 = _
    unfold compL It.at
    simp only [List.getElem?_cons_zero, h1]
    unfold compL It.at
    simp only [List.getElem?_cons_succ, List.getElem?_cons_zero, Nat.zero_add, h2]
    unfold compL It.at
    simp
  exact congrArg (fun (r : Rs (List A)) => r.bind fun ys st3 => Rs.ok (A.ref (List.length st3)) (st3 ++ [Ob.lst ys])) e1
theorem asgT_ref2 {i j l : Nat} {a b : A} {env : En} {st : Sto} (h : st[l]? = some (.lst [a, b])) : asgT (.tup [.name i, .name j]) (.ref l) env st = .nx ((env.set i (some a)).set j (some b)) st := by
  unfold asgT
  rw [T.put, h]
  simp [T.put, T.puts]
end MP

/-! What the laws' own helpers share: errors met, drawn values, cut lists (own work). -/
namespace MP
open PySem PySem.Spec PyProof.Rows L2
def asI (l : List Int) : List A := l.map A.int
section
variable {st : Sto}
def SO.tr (r : SO) (f : Str → List (Str × A) → En → Sto → SO) : SO := match r with
  | .ex c fs env st => f c fs env st
  | r => r
@[simp] theorem tr_nx (env : En) (st : Sto) (f : Str → List (Str × A) → En → Sto → SO) : SO.tr (.nx env st) f = .nx env st := rfl
@[simp] theorem tr_rt (a : A) (st : Sto) (f : Str → List (Str × A) → En → Sto → SO) : SO.tr (.rt a st) f = .rt a st := rfl
@[simp] theorem tr_ex (c : Str) (fs : List (Str × A)) (env : En) (st : Sto) (f : Str → List (Str × A) → En → Sto → SO) : SO.tr (.ex c fs env st) f = f c fs env st := rfl
theorem evS_tri {C : CallT} {b : Ss} {hs : Hs} {env : En} : evS C (.tri b hs) env st = SO.tr (evSs C b env st) fun c fs env st => evHs C hs c fs env st := by
  rw [evS]
  unfold SO.tr
  rfl
theorem evHs_no {C : CallT} {c' c : Str} {att : Option (Nat × Nat × List Str)} {e : E} {hs : Hs} {fs : List (Str × A)} {env : En} (h : hit c' c = false) : evHs C (.cons c' att e hs) c fs env st = evHs C hs c fs env st := by
  rw [evHs.eq_def]
  dsimp only
  rw [if_neg (by rw [h]; decide)]
theorem evHs_yes {C : CallT} {c' c : Str} {i m : Nat} {fl : List Str} {e : E} {hs : Hs} {fs : List (Str × A)} {env : En} {a : A} {st' : Sto} (h : hit c' c = true) (h1 : env.length = m) (h2 : fs.map (·.1) = fl) (h3 : evE C e (env.set i none ++ fs.map fun p => some p.2) st = .ok a st') : evHs C (.cons c' (some (i, m, fl)) e hs) c fs env st = .rt a st' := by
  rw [evHs, if_pos h, if_pos ⟨h1, h2⟩, h3]
theorem fSl_lo {l : Nat} {xs : List A} {i : Int} (h : st[l]? = some (.lst xs)) : fSl [.ref l, .non, .int i] st = .ok (.ref st.length) (st ++ [.lst (cutA xs none (some i))]) := by
  unfold fSl partA
  dsimp only
  rw [h]
theorem fSl_hi {l : Nat} {xs : List A} {i : Int} (h : st[l]? = some (.lst xs)) : fSl [.ref l, .int i, .non] st = .ok (.ref st.length) (st ++ [.lst (cutA xs (some i) none)]) := by
  unfold fSl partA
  dsimp only
  rw [h]
theorem fAdd_ref {l k : Nat} {xs ys : List A} (h : st[l]? = some (.lst xs)) (h2 : st[k]? = some (.lst ys)) (hz : xs.length + ys.length ≤ 1000000) : fAdd (.ref l) (.ref k) st = .ok (.ref st.length) (st ++ [.lst (xs ++ ys)]) := by
  unfold fAdd
  dsimp only
  rw [h, h2]
  dsimp only
  rw [if_pos (show lenOk (xs.length + ys.length) = true from decide_eq_true hz)]
/-! ### comprehensions over a range whose body changes the store -/
theorem compL_inv {lo : Int} {m : Nat} {body : A → Sto → Rs (Option A)} (Inv : Nat → List A → Sto → Prop) (hb : ∀ i acc st, i < m → Inv i acc st → ∃ o st', body (.int (lo + (i : Int))) st = .ok o st' ∧ Inv (i + 1) (acc ++ o.toList) st') :
    ∀ (f i : Nat) (acc : List A) (st : Sto), i + f = m + 1 → i ≤ m → Inv i acc st → ∃ acc' st', compL (.rng lo m) body f i acc st = .ok acc' st' ∧ Inv m acc' st'
  | 0, i, acc, st, h, h2, _ => by omega
  | f + 1, i, acc, st, h, h2, hi => by
    unfold compL It.at
    by_cases hl : i < m
    · rw [if_pos hl]
      dsimp only
      obtain ⟨o, st', e, h'⟩ := hb i acc st hl hi
      rw [e]
      cases o with
      | none =>
        have h'' : Inv (i + 1) acc st' := by simpa using h'
        exact compL_inv Inv hb f (i + 1) acc st' (by omega) (by omega) h''
      | some y => exact compL_inv Inv hb f (i + 1) (acc ++ [y]) st' (by omega) (by omega) h'
    · rw [if_neg hl]
      have : i = m := by omega
      subst this
      exact ⟨acc, st, rfl, hi⟩
theorem comp_inv {C : CallT} {env : En} {own : List Nat} {es : Es} {t : T} {c e : E} {lo : Int} {m : Nat} {xs : List A} {st st1 : Sto} (Inv : Nat → List A → Sto → Prop) (hes : evEs C es env st = .ok xs st1) (hit : itRange xs st1 = .ok (.rng lo m) st1) (hn : m ≤ 1000000) (h0 : Inv 0 [] st1)
    (hb : ∀ i acc st, i < m → Inv i acc st → ∃ o st', (match t.put (.int (lo + (i : Int))) (wipeE env own) st with
        | some env' => ((evE C c env' st).bind asB).bind fun k st' => if k then (evE C e env' st').bind fun y st'' => .ok (some y) st'' else .ok none st'
        | none => .bad : Rs (Option A)) = .ok o st' ∧ Inv (i + 1) (acc ++ o.toList) st') :
    ∃ acc st', evE C (.comp own itRange es t c e) env st = .ok (.ref st'.length) (st' ++ [.lst acc]) ∧ Inv m acc st' := by
  obtain ⟨acc, st', e1, h1⟩ := compL_inv (lo := lo) (m := m) (body := fun x st => match t.put x (wipeE env own) st with
        | some env' => ((evE C c env' st).bind asB).bind fun k st' => if k then (evE C e env' st').bind fun y st'' => .ok (some y) st'' else .ok none st'
        | none => .bad) Inv hb (m + 1) 0 [] st1 (by omega) (Nat.zero_le _) h0
  refine ⟨acc, st', ?_, h1⟩
  rw [evE, hes, Rs.bind_ok, hit, Rs.bind_ok]
  have hl : lenOk ((It.rng lo m).len st1) = true := decide_eq_true hn
  rw [if_neg (by rw [hl]; decide)]
  have hlen : (It.rng lo m).len st1 = m := rfl
  rw [hlen]
  exact congrArg (fun (r : Rs (List A)) => r.bind fun ys st3 => Rs.ok (A.ref (List.length st3)) (st3 ++ [Ob.lst ys])) e1
/-- {} or {'more': 7} -/
def isMore (kvs : List (Key × A)) : Prop := kvs = [] ∨ kvs = [(.inr "more", .int 7)]
/-- the objects that are drawn: short lists of ints, small dicts -/
def Lk (B : Nat) (o : Ob) : Prop := (∃ xs : List Int, o = .lst (asI xs) ∧ xs.length ≤ B) ∨ ∃ kvs, o = .dct kvs ∧ isMore kvs
theorem Lk.mono {B B' : Nat} {o : Ob} (h : Lk B o) (hb : B ≤ B') : Lk B' o := by
  rcases h with ⟨xs, e, hl⟩ | h
  · exact .inl ⟨xs, e, by omega⟩
  · exact .inr h
/-- wrong values -/
inductive WV (B lw : Nat) (st : Sto) : A → Prop
  | non : WV B lw st .non
  | tru : WV B lw st (.bl true)
  | int (i : Int) : WV B lw st (.int i)
  | str (x : Str) : WV B lw st (.str x)
  | tup (xs : List Int) (h : xs.length ≤ 5) : WV B lw st (.tup (asI xs))
  | ref {l : Nat} {o : Ob} (h : st[l]? = some o) (k : Lk B o) (hl : l ≠ lw) : WV B lw st (.ref l)
/-- how the store goes on: objects are kept, or drawn ones changed -/
structure Evo (B lw : Nat) (st st' : Sto) : Prop where
  len : st.length ≤ st'.length
  same : ∀ l o, st[l]? = some o → st'[l]? = some o ∨ (l ≠ lw ∧ Lk B o ∧ ∃ o', st'[l]? = some o' ∧ Lk (B + 1) o')
theorem Evo.push {B lw : Nat} {st g : Sto} : Evo B lw st (st ++ g) := ⟨by rw [List.length_append]; omega, fun l o h => .inl (by rw [List.getElem?_append_left (List.getElem?_eq_some_iff.mp h).1]; exact h)⟩
theorem WV.evo {B lw : Nat} {st st' : Sto} {v : A} (h : WV B lw st v) (e : Evo B lw st st') : WV (B + 1) lw st' v := by
  cases h with
  | non => exact .non
  | tru => exact .tru
  | int i => exact .int i
  | str x => exact .str x
  | tup xs h => exact .tup xs h
  | ref h k hl =>
    rcases e.same _ _ h with h2 | ⟨_, _, o', h2, k2⟩
    · exact .ref h2 (k.mono (by omega)) hl
    · exact .ref h2 k2 hl
theorem WV.push {B lw : Nat} {st g : Sto} {v : A} (h : WV B lw st v) : WV B lw (st ++ g) v := by
  cases h with
  | non => exact .non
  | tru => exact .tru
  | int i => exact .int i
  | str x => exact .str x
  | tup xs h => exact .tup xs h
  | ref h k hl => exact .ref (by rw [List.getElem?_append_left (List.getElem?_eq_some_iff.mp h).1]; exact h) k hl
theorem asI_get {xs : List Int} {k : Nat} {x : A} (h : (asI xs)[k]? = some x) : ∃ i, x = .int i := by
  unfold asI at h
  rw [List.getElem?_map] at h
  cases e : xs[k]? with
  | none => rw [e] at h; cases h
  | some i => rw [e] at h; exact ⟨i, by simpa using h.symm⟩
theorem box_notLk {B : Nat} {s c d : Int} {b : Bool} : ¬ Lk B (.lst [.int s, .bl b, .int c, .int d]) := by
  rintro (⟨xs, e, _⟩ | ⟨kvs, e, _⟩)
  · unfold asI at e
    match xs with
    | [] => cases e
    | [_] => cases e
    | x :: y :: r => cases e
  · cases e
theorem WV.gr {B lw L : Nat} {k : Int} {st' : Sto} {v : A} (h : WV B lw st v) (g : GB st L k) (G : Gr L st st') : WV B lw st' v := by
  cases h with
  | non => exact .non
  | tru => exact .tru
  | int i => exact .int i
  | str x => exact .str x
  | tup xs h => exact .tup xs h
  | @ref l o h k hl =>
    refine .ref (G.get h ?_) k hl
    rintro rfl
    obtain ⟨s, b, c, d, e, _⟩ := g
    rw [e] at h
    cases h
    exact box_notLk k
theorem WV.mono {B B' lw : Nat} {v : A} (h : WV B lw st v) (hb : B ≤ B') : WV B' lw st v := by
  cases h with
  | non => exact .non
  | tru => exact .tru
  | int i => exact .int i
  | str x => exact .str x
  | tup xs h => exact .tup xs h
  | ref h k hl => exact .ref h (k.mono hb) hl
theorem Evo.gb {B lw L : Nat} {k : Int} {st' : Sto} (g : GB st L k) (e : Evo B lw st st') : GB st' L k := by
  obtain ⟨s, b, c, d, h, r⟩ := g
  rcases e.same _ _ h with h2 | ⟨_, hk, _⟩
  · exact ⟨s, b, c, d, h2, r⟩
  · exact absurd hk box_notLk
theorem Evo.at {B lw : Nat} {st' : Sto} {o : Ob} (h : st[lw]? = some o) (e : Evo B lw st st') : st'[lw]? = some o := by
  rcases e.same _ _ h with h2 | ⟨z, _⟩
  · exact h2
  · exact absurd rfl z
/-- drawn: fits behind every later list -/
def Dr (B : Nat) (st : Sto) (v : A) : Prop := ∀ lw, st.length ≤ lw → WV B lw st v
theorem fDNew_nil : fDNew [] st = .ok (.ref st.length) (st ++ [.dct []]) := rfl
theorem WV.setlw {B lw : Nat} {o : Ob} {v : A} (h : WV B lw st v) : WV B lw (st.set lw o) v := by
  cases h with
  | non => exact .non
  | tru => exact .tru
  | int i => exact .int i
  | str x => exact .str x
  | tup xs h => exact .tup xs h
  | ref h k hl => exact .ref (by rw [List.getElem?_set_ne (Ne.symm hl)]; exact h) k hl
theorem Dr.gr {B L : Nat} {k : Int} {st' : Sto} {v : A} (h : Dr B st v) (g : GB st L k) (G : Gr L st st') : Dr B st' v := fun lw hl => (h lw (Nat.le_trans G.len hl)).gr g G
theorem fLen_items {v : A} {xs : List A} (h : itemsOf v st = some xs) : fLen [v] st = .ok (.int (xs.length : Int)) st := by
  unfold itemsOf at h
  unfold fLen
  cases v with
  | ref l =>
    dsimp only at h ⊢
    cases e : st[l]? with
    | none => rw [e] at h; cases h
    | some o =>
      rw [e] at h
      cases o with
      | lst ys => cases h; rfl
      | dct _ => cases h
      | fdc _ => cases h
  | tup ys => cases h; rfl
  | rol ys => cases h; rfl
  | _ => cases h
theorem fIx_items {v : A} {xs : List A} {i : Int} {z : A} (h : itemsOf v st = some xs) (e : atI xs i = some z) : fIx v (.int i) st = .ok z st := by
  cases v with
  | ref l =>
    unfold itemsOf at h
    dsimp only at h
    cases e2 : st[l]? with
    | none => rw [e2] at h; cases h
    | some o =>
      rw [e2] at h
      cases o with
      | lst ys => cases h; exact fIx_lst e2 e
      | dct _ => cases h
      | fdc _ => cases h
  | tup ys => cases h; exact fIx_tup e
  | rol ys => cases h; exact fIx_rol e
  | _ => cases h
theorem toD_ref {k a : Nat} {xs : List A} (h : st[a]? = some (.lst xs)) : toD (k + 1) st (.ref a) = (toDs k st xs).map .list := by
  rw [toD.eq_def]
  dsimp only
  rw [h]
theorem fEq_ref {a b : Nat} {xs ys : List A} {d e : List PyData} (h1 : st[a]? = some (.lst xs)) (h2 : st[b]? = some (.lst ys)) (e1 : toDs 999 st xs = some d) (e2 : toDs 999 st ys = some e) (s1 : SeqAt.shaped (.list d) = true) (s2 : SeqAt.shaped (.list e) = true) : fEq (.ref a) (.ref b) st = .ok (.bl (PyData.eqv (.list d) (.list e))) st := by
  have t1 : toD eqFuel st (.ref a) = some (.list d) := by
    rw [show eqFuel = 999 + 1 from rfl, toD_ref h1, e1]
    rfl
  have t2 : toD eqFuel st (.ref b) = some (.list e) := by
    rw [show eqFuel = 999 + 1 from rfl, toD_ref h2, e2]
    rfl
  show (match toD eqFuel st (.ref a), toD eqFuel st (.ref b) with
    | some d, some e => if SeqAt.shaped d = true ∧ SeqAt.shaped e = true then Rs.ok (A.bl (PyData.eqv d e)) st else .bad
    | _, _ => .bad) = _
  rw [t1, t2]
  dsimp only
  rw [if_pos ⟨s1, s2⟩]
theorem fNe_ref {a b : Nat} {xs ys : List A} {d e : List PyData} (h1 : st[a]? = some (.lst xs)) (h2 : st[b]? = some (.lst ys)) (e1 : toDs 999 st xs = some d) (e2 : toDs 999 st ys = some e) (s1 : SeqAt.shaped (.list d) = true) (s2 : SeqAt.shaped (.list e) = true) : fNe (.ref a) (.ref b) st = .ok (.bl (!PyData.eqv (.list d) (.list e))) st := by
  have t1 : toD eqFuel st (.ref a) = some (.list d) := by
    rw [show eqFuel = 999 + 1 from rfl, toD_ref h1, e1]
    rfl
  have t2 : toD eqFuel st (.ref b) = some (.list e) := by
    rw [show eqFuel = 999 + 1 from rfl, toD_ref h2, e2]
    rfl
  show (match toD eqFuel st (.ref a), toD eqFuel st (.ref b) with
    | some d, some e => if SeqAt.shaped d = true ∧ SeqAt.shaped e = true then Rs.ok (A.bl (!PyData.eqv d e)) st else .bad
    | _, _ => .bad) = _
  rw [t1, t2]
  dsimp only
  rw [if_pos ⟨s1, s2⟩]
theorem fEq_nil {a b : Nat} (h1 : st[a]? = some (.lst [])) (h2 : st[b]? = some (.lst [])) : fEq (.ref a) (.ref b) st = .ok (.bl true) st := fEq_ref (d := []) (e := []) h1 h2 rfl rfl (by decide) (by decide)
/-! ### _law_same -/
theorem fIsi_ty {v : A} {t : String} {Ts : List String} (h : tyOfA v st = some t) : fIsi Ts v st = .ok (.bl (Ts.any fun T => isTy t T)) st := by
  unfold fIsi
  rw [h]
theorem isTy_seq {t : String} (h : t = "list" ∨ t = "tuple") : isTy t "bool" = false ∧ isTy t "int" = false ∧ isTy t "str" = false ∧ isTy t "dict" = false ∧ (isTy t "list" || isTy t "tuple") = true := by
  rcases h with rfl | rfl <;> decide
end
end MP

namespace MP.Law
open PySem PySem.Spec PyProof.Rows L2 MP
/-! ### the text (printed by wip/gen.py) -/
abbrev P : Program := PySem.Challenge.pw_scoutroads_k26_bases_and_neighbors_of_th
def top (i : Nat) : Stmt := PySem.Challenge.pw_scoutroads_k26_bases_and_neighbors_of_th.main.body.getD i (.Pass ⟨0, 0, 0, 0⟩)
def clsB (s : Stmt) : Stmt := match s with
  | .ClassDef _ _ _ (b :: _) .. => b
  | s => s
abbrev k_WHOLE : A := .tup [.int 1, .int 1]
abbrev k_MOST_TEAM : A := .int 5
abbrev k_TWICE : A := .tup [.int 2, .int 1]
/-- is_integer(value): slots value -/
def b0 (fu : Nat) : Ss := .cons (.ret (.and_ (.p1 (fIsi ["int"]) (.var 0)) (.p1 fNot (.p1 (fIsi ["bool"]) (.var 0))))) .nil
/-- is_between(value, least, most): slots value least most -/
def b1 (fu : Nat) : Ss := .cons (.ret (.and_ (.call 0 [] (.cons (.var 0) .nil)) (.chain fLeI fLeI (.var 1) (.var 0) (.var 2)))) .nil
/-- is_tuple_of(value, many): slots value many -/
def b2 (fu : Nat) : Ss := .cons (.ret (.and_ (.p1 (fIsi ["tuple"]) (.var 0)) (.p2 fEq (.pn fLen (.cons (.var 0) .nil)) (.var 1)))) .nil
/-- fraction_of(n, d): slots n d shared -/
def b3 (fu : Nat) : Ss := .cons (.asg (.name 2) (.cond (.p2 fGtI (.var 1) (.c (.int 0))) (.pn fGcd (.cons (.var 0) (.cons (.var 1) .nil))) (.p1 fNeg (.pn fGcd (.cons (.var 0) (.cons (.var 1) .nil)))))) (.cons (.ret (.pn fTup (.cons (.p2 fDiv (.var 0) (.var 2)) (.cons (.p2 fDiv (.var 1) (.var 2)) .nil)))) .nil)
/-- is_fraction(value): slots value -/
def b4 (fu : Nat) : Ss := .cons (.ite (.or_ (.p1 fNot (.call 2 [] (.cons (.var 0) (.cons (.c (.int 2)) .nil)))) (.or_ (.p1 fNot (.call 0 [] (.cons (.p2 fIx (.var 0) (.c (.int 0))) .nil))) (.p1 fNot (.call 0 [] (.cons (.p2 fIx (.var 0) (.c (.int 1))) .nil))))) (.cons (.ret (.c (.bl false))) .nil) (.nil)) (.cons (.ret (.and_ (.p2 fGtI (.p2 fIx (.var 0) (.c (.int 1))) (.c (.int 0))) (.p2 fEq (.pn fGcd (.cons (.p2 fIx (.var 0) (.c (.int 0))) (.cons (.p2 fIx (.var 0) (.c (.int 1))) .nil))) (.c (.int 1))))) .nil)
/-- sum_of(one, other): slots one other -/
def b5 (fu : Nat) : Ss := .cons (.ret (.call 3 [] (.cons (.p2 fAdd (.p2 fMul (.p2 fIx (.var 0) (.c (.int 0))) (.p2 fIx (.var 1) (.c (.int 1)))) (.p2 fMul (.p2 fIx (.var 1) (.c (.int 0))) (.p2 fIx (.var 0) (.c (.int 1))))) (.cons (.p2 fMul (.p2 fIx (.var 0) (.c (.int 1))) (.p2 fIx (.var 1) (.c (.int 1)))) .nil)))) .nil
/-- difference_of(one, other): slots one other -/
def b6 (fu : Nat) : Ss := .cons (.ret (.call 3 [] (.cons (.p2 fSub (.p2 fMul (.p2 fIx (.var 0) (.c (.int 0))) (.p2 fIx (.var 1) (.c (.int 1)))) (.p2 fMul (.p2 fIx (.var 1) (.c (.int 0))) (.p2 fIx (.var 0) (.c (.int 1))))) (.cons (.p2 fMul (.p2 fIx (.var 0) (.c (.int 1))) (.p2 fIx (.var 1) (.c (.int 1)))) .nil)))) .nil
/-- times_of(one, other): slots one other -/
def b7 (fu : Nat) : Ss := .cons (.ret (.call 3 [] (.cons (.p2 fMul (.p2 fIx (.var 0) (.c (.int 0))) (.p2 fIx (.var 1) (.c (.int 0)))) (.cons (.p2 fMul (.p2 fIx (.var 0) (.c (.int 1))) (.p2 fIx (.var 1) (.c (.int 1)))) .nil)))) .nil
/-- over_of(one, other): slots one other -/
def b8 (fu : Nat) : Ss := .cons (.ret (.call 3 [] (.cons (.p2 fMul (.p2 fIx (.var 0) (.c (.int 0))) (.p2 fIx (.var 1) (.c (.int 1)))) (.cons (.p2 fMul (.p2 fIx (.var 0) (.c (.int 1))) (.p2 fIx (.var 1) (.c (.int 0)))) .nil)))) .nil
/-- order_of(one, other): slots one other left right -/
def b9 (fu : Nat) : Ss := .cons (.asg (.tup [.name 2, .name 3]) (.pn fTup (.cons (.p2 fMul (.p2 fIx (.var 0) (.c (.int 0))) (.p2 fIx (.var 1) (.c (.int 1)))) (.cons (.p2 fMul (.p2 fIx (.var 1) (.c (.int 0))) (.p2 fIx (.var 0) (.c (.int 1)))) .nil)))) (.cons (.ret (.p2 fSub (.pn fIntC (.cons (.p2 fGtI (.var 2) (.var 3)) .nil)) (.pn fIntC (.cons (.p2 fLtI (.var 2) (.var 3)) .nil)))) .nil)
/-- whole_power(number, exponent): slots number exponent found square left -/
def b10 (fu : Nat) : Ss := .cons (.asg (.tup [.name 2, .name 3, .name 4]) (.pn fTup (.cons (.c (.int 1)) (.cons (.var 0) (.cons (.var 1) .nil))))) (.cons (.whl fu (.p2 fGtI (.var 4) (.c (.int 0))) (.cons (.asg (.name 2) (.cond (.p2 fEq (.p2 fMod (.var 4) (.c (.int 2))) (.c (.int 1))) (.p2 fMul (.var 2) (.var 3)) (.var 2))) (.cons (.asg (.name 4) (.p2 fDiv (.var 4) (.c (.int 2)))) (.cons (.asg (.name 3) (.cond (.p2 fGtI (.var 4) (.c (.int 0))) (.p2 fMul (.var 3) (.var 3)) (.var 3))) .nil)))) (.cons (.ret (.var 2)) .nil))
/-- power_of(one, exponent): slots one exponent -/
def b11 (fu : Nat) : Ss := .cons (.ret (.pn fTup (.cons (.call 10 [] (.cons (.p2 fIx (.var 0) (.c (.int 0))) (.cons (.var 1) .nil))) (.cons (.call 10 [] (.cons (.p2 fIx (.var 0) (.c (.int 1))) (.cons (.var 1) .nil))) .nil)))) .nil
/-- whole_root(number, exponent): slots number exponent low high middle -/
def b12 (fu : Nat) : Ss := .cons (.asg (.tup [.name 2, .name 3]) (.pn fTup (.cons (.c (.int 0)) (.cons (.c (.int 1)) .nil)))) (.cons (.whl fu (.p2 fLeI (.call 10 [] (.cons (.var 3) (.cons (.var 1) .nil))) (.var 0)) (.cons (.asg (.tup [.name 2, .name 3]) (.pn fTup (.cons (.var 3) (.cons (.p2 fMul (.c (.int 2)) (.var 3)) .nil)))) .nil)) (.cons (.whl fu (.p2 fGtI (.p2 fSub (.var 3) (.var 2)) (.c (.int 1))) (.cons (.asg (.name 4) (.p2 fDiv (.p2 fAdd (.var 2) (.var 3)) (.c (.int 2)))) (.cons (.ite (.p2 fLeI (.call 10 [] (.cons (.var 4) (.cons (.var 1) .nil))) (.var 0)) (.cons (.asg (.name 2) (.var 4)) .nil) (.cons (.asg (.name 3) (.var 4)) .nil)) .nil))) (.cons (.ret (.var 2)) .nil)))
/-- root_below_of(one, exponent, d): slots one exponent d -/
def b13 (fu : Nat) : Ss := .cons (.ret (.call 3 [] (.cons (.call 12 [] (.cons (.p2 fDiv (.p2 fMul (.p2 fIx (.var 0) (.c (.int 0))) (.call 10 [] (.cons (.var 2) (.cons (.var 1) .nil)))) (.p2 fIx (.var 0) (.c (.int 1)))) (.cons (.var 1) .nil))) (.cons (.var 2) .nil)))) .nil
/-- check_roads(roads): slots roads -/
def b14 (fu : Nat) : Ss := .cons (.ite (.p1 fNot (.call 1 [] (.cons (.var 0) (.cons (.c (.int 1)) (.cons (.c k_MOST_TEAM) .nil))))) (.cons (.rais "InvalidRoads" ["given"] (.cons (.var 0) .nil)) .nil) (.nil)) .nil
/-- check_walkers(walkers): slots walkers -/
def b15 (fu : Nat) : Ss := .cons (.ite (.p1 fNot (.call 1 [] (.cons (.var 0) (.cons (.c (.int 1)) (.cons (.c k_MOST_TEAM) .nil))))) (.cons (.rais "InvalidWalkers" ["given"] (.cons (.var 0) .nil)) .nil) (.nil)) .nil
/-- check_asked(asked): slots asked -/
def b16 (fu : Nat) : Ss := .cons (.ite (.p1 fNot (.call 1 [] (.cons (.var 0) (.cons (.c (.int 1)) (.cons (.c k_MOST_TEAM) .nil))))) (.cons (.rais "InvalidAsked" ["given"] (.cons (.var 0) .nil)) .nil) (.nil)) .nil
/-- check_numbers(roads, walkers, asked): slots roads walkers asked -/
def b17 (fu : Nat) : Ss := .cons (.expr (.call 14 [] (.cons (.var 0) .nil))) (.cons (.expr (.call 15 [] (.cons (.var 1) .nil))) (.cons (.expr (.call 16 [] (.cons (.var 2) .nil))) .nil))
/-- check_team(roads, walkers, asked): slots roads walkers asked -/
def b18 (fu : Nat) : Ss := .cons (.expr (.call 17 [] (.cons (.var 0) (.cons (.var 1) (.cons (.var 2) .nil))))) (.cons (.ite (.p2 fGtI (.var 2) (.var 1)) (.cons (.rais "InvalidAsked" ["given"] (.cons (.var 2) .nil)) .nil) (.nil)) .nil)
/-- check_bottom(bottom): slots bottom -/
def b19 (fu : Nat) : Ss := .cons (.ite (.or_ (.p1 fNot (.call 0 [] (.cons (.var 0) .nil))) (.p2 fLtI (.var 0) (.c (.int 1)))) (.cons (.rais "InvalidNumber" ["given"] (.cons (.var 0) .nil)) .nil) (.nil)) .nil
/-- power_by(whole, walkers): slots whole walkers rest below -/
def b20 (fu : Nat) : Ss := .cons (.asg (.name 2) (.p2 fSub (.var 0) (.var 1))) (.cons (.asg (.name 3) (.call 7 [] (.cons (.call 11 [] (.cons (.pn fTup (.cons (.var 1) (.cons (.c (.int 1)) .nil))) (.cons (.var 1) .nil))) (.cons (.call 11 [] (.cons (.pn fTup (.cons (.var 2) (.cons (.c (.int 1)) .nil))) (.cons (.var 2) .nil))) .nil)))) (.cons (.ret (.call 8 [] (.cons (.call 11 [] (.cons (.pn fTup (.cons (.var 0) (.cons (.c (.int 1)) .nil))) (.cons (.var 0) .nil))) (.cons (.var 3) .nil)))) .nil))
/-- bound_between(roads, walkers, asked, bottom): slots roads walkers asked bottom low root -/
def b21 (fu : Nat) : Ss := .cons (.expr (.call 18 [] (.cons (.var 0) (.cons (.var 1) (.cons (.var 2) .nil))))) (.cons (.expr (.call 19 [] (.cons (.var 3) .nil))) (.cons (.asg (.name 4) (.c k_WHOLE)) (.cons (.ite (.p2 fLtI (.var 1) (.p2 fMul (.var 0) (.var 2))) (.cons (.asg (.name 5) (.call 13 [] (.cons (.call 20 [] (.cons (.p2 fMul (.var 0) (.var 2)) (.cons (.var 1) .nil))) (.cons (.var 1) (.cons (.p2 fMul (.c (.int 2)) (.var 3)) .nil))))) (.cons (.asg (.name 4) (.call 5 [] (.cons (.c k_WHOLE) (.cons (.call 7 [] (.cons (.c k_TWICE) (.cons (.var 5) .nil))) .nil)))) .nil)) (.nil)) (.cons (.ret (.pn fTup (.cons (.var 4) (.cons (.call 5 [] (.cons (.var 4) (.cons (.pn fTup (.cons (.c (.int 1)) (.cons (.var 3) .nil))) .nil))) .nil)))) .nil))))
/-- ratio_of_base(whole, walkers, base): slots whole walkers base less -/
def b22 (fu : Nat) : Ss := .cons (.asg (.name 3) (.call 6 [] (.cons (.call 11 [] (.cons (.var 2) (.cons (.var 1) .nil))) (.cons (.c k_WHOLE) .nil)))) (.cons (.ret (.call 5 [] (.cons (.c k_WHOLE) (.cons (.call 7 [] (.cons (.c k_TWICE) (.cons (.call 8 [] (.cons (.call 11 [] (.cons (.var 2) (.cons (.var 0) .nil))) (.cons (.var 3) .nil))) .nil))) .nil)))) .nil)
/-- base_ratio(roads, walkers, asked, base): slots roads walkers asked base -/
def b23 (fu : Nat) : Ss := .cons (.expr (.call 18 [] (.cons (.var 0) (.cons (.var 1) (.cons (.var 2) .nil))))) (.cons (.ite (.or_ (.p1 fNot (.call 4 [] (.cons (.var 3) .nil))) (.p2 fLeI (.call 9 [] (.cons (.var 3) (.cons (.c k_WHOLE) .nil))) (.c (.int 0)))) (.cons (.rais "InvalidBase" ["given"] (.cons (.var 3) .nil)) .nil) (.nil)) (.cons (.ret (.call 22 [] (.cons (.p2 fMul (.var 0) (.var 2)) (.cons (.var 1) (.cons (.var 3) .nil))))) .nil))
/-- best_over(roads, walkers, asked, bottom): slots roads walkers asked bottom whole low high first second base -/
def b24 (fu : Nat) : Ss := .cons (.expr (.call 18 [] (.cons (.var 0) (.cons (.var 1) (.cons (.var 2) .nil))))) (.cons (.expr (.call 19 [] (.cons (.var 3) .nil))) (.cons (.asg (.name 4) (.p2 fMul (.var 0) (.var 2))) (.cons (.ite (.p2 fGeI (.var 1) (.var 4)) (.cons (.ret (.c .non)) .nil) (.nil)) (.cons (.asg (.name 5) (.call 13 [] (.cons (.call 3 [] (.cons (.var 4) (.cons (.p2 fSub (.var 4) (.var 1)) .nil))) (.cons (.var 1) (.cons (.var 3) .nil))))) (.cons (.asg (.name 6) (.call 5 [] (.cons (.var 5) (.cons (.pn fTup (.cons (.c (.int 1)) (.cons (.var 3) .nil))) .nil)))) (.cons (.ite (.p2 fLeI (.call 9 [] (.cons (.var 5) (.cons (.c k_WHOLE) .nil))) (.c (.int 0))) (.cons (.ret (.var 6)) .nil) (.nil)) (.cons (.asg (.tup [.name 7, .name 8]) (.comp [9] itSeq (.cons (.pn fTup (.cons (.var 5) (.cons (.var 6) .nil))) .nil) (.name 9) (.c (.bl true)) (.call 22 [] (.cons (.var 4) (.cons (.var 1) (.cons (.var 9) .nil)))))) (.cons (.ret (.cond (.p2 fLeI (.call 9 [] (.cons (.var 7) (.cons (.var 8) .nil))) (.c (.int 0))) (.var 5) (.var 6))) .nil))))))))
/-- _law_box(great): slots great small -/
def b25 (fu : Nat) : Ss := .cons (.asg (.name 1) (.p2 fMod (.pn fIntC (.cons (.pn fAbs (.cons (.var 0) .nil)) .nil)) (.p2 fPow (.c (.int 10)) (.c (.int 64))))) (.cons (.ret (.pn fLst (.cons (.var 1) (.cons (.p2 fGeI (.pn fAbs (.cons (.var 0) .nil)) (.p2 fPow (.c (.int 10)) (.c (.int 18)))) (.cons (.p2 fMod (.var 1) (.c (.int 2147483629))) (.cons (.c (.int 0)) .nil)))))) .nil)
/-- _law_take(box, many): slots box many digit -/
def b26 (fu : Nat) : Ss := .cons (.ite (.and_ (.p2 fIx (.var 0) (.c (.int 1))) (.p2 fGtI (.p2 fIx (.var 0) (.c (.int 0))) (.c (.int 0)))) (.cons (.asg (.name 2) (.p2 fMod (.pn fIntC (.cons (.p2 fIx (.var 0) (.c (.int 0))) .nil)) (.var 1))) (.cons (.setIx (.var 0) (.c (.int 0)) (.p2 fDiv (.pn fIntC (.cons (.p2 fIx (.var 0) (.c (.int 0))) .nil)) (.var 1))) (.cons (.ret (.var 2)) .nil))) (.nil)) (.cons (.setIx (.var 0) (.c (.int 3)) (.p2 fAdd (.p2 fIx (.var 0) (.c (.int 3))) (.c (.int 1)))) (.cons (.setIx (.var 0) (.c (.int 2)) (.p2 fMod (.p2 fAdd (.p2 fAdd (.p2 fMul (.p2 fIx (.var 0) (.c (.int 2))) (.c (.int 69621))) (.p2 fMul (.c (.int 1327)) (.p2 fIx (.var 0) (.c (.int 3))))) (.c (.int 31))) (.c (.int 2147483629)))) (.cons (.ret (.p2 fMod (.pn fIntC (.cons (.p2 fDiv (.p2 fIx (.var 0) (.c (.int 2))) (.c (.int 64))) .nil)) (.var 1))) .nil)))
/-- _law_pick(box, some): slots box some -/
def b27 (fu : Nat) : Ss := .cons (.ret (.p2 fIx (.var 1) (.call 26 [] (.cons (.var 0) (.cons (.pn fLen (.cons (.var 1) .nil)) .nil))))) .nil
/-- _law_cell(script, k): slots script k -/
def b28 (fu : Nat) : Ss := .cons (.ret (.cond (.p2 fLtI (.var 1) (.pn fLen (.cons (.var 0) .nil))) (.p2 fIx (.var 0) (.var 1)) (.p2 fAdd (.p2 fMul (.c (.int 6173)) (.var 1)) (.p2 fMod (.pn fIntC (.cons (.pn fSum (.cons (.pn fSl (.cons (.var 0) (.cons (.c .non) (.cons (.p1 fInt (.c (.int 1))) .nil)))) .nil)) .nil)) (.c (.int 1000033)))))) .nil
/-- _law_low(top, bottom): slots top bottom one other -/
def b29 (fu : Nat) : Ss := .cons (.asg (.tup [.name 2, .name 3]) (.pn fTup (.cons (.pn fAbs (.cons (.var 0) .nil)) (.cons (.pn fAbs (.cons (.var 1) .nil)) .nil)))) (.cons (.whl fu (.p2 fGtI (.var 3) (.c (.int 0))) (.cons (.asg (.tup [.name 2, .name 3]) (.pn fTup (.cons (.var 3) (.cons (.p2 fMod (.pn fIntC (.cons (.var 2) .nil)) (.var 3)) .nil)))) .nil)) (.cons (.ite (.p2 fLtI (.var 1) (.c (.int 0))) (.cons (.asg (.name 2) (.p1 fNeg (.var 2))) .nil) (.nil)) (.cons (.ret (.pn fTup (.cons (.p2 fDiv (.var 0) (.var 2)) (.cons (.p2 fDiv (.var 1) (.var 2)) .nil)))) .nil)))
/-- _law_plus(one, other): slots one other -/
def b30 (fu : Nat) : Ss := .cons (.ret (.call 29 [] (.cons (.p2 fAdd (.p2 fMul (.p2 fIx (.var 0) (.c (.int 0))) (.p2 fIx (.var 1) (.c (.int 1)))) (.p2 fMul (.p2 fIx (.var 1) (.c (.int 0))) (.p2 fIx (.var 0) (.c (.int 1))))) (.cons (.p2 fMul (.p2 fIx (.var 0) (.c (.int 1))) (.p2 fIx (.var 1) (.c (.int 1)))) .nil)))) .nil
/-- _law_minus(one, other): slots one other -/
def b31 (fu : Nat) : Ss := .cons (.ret (.call 29 [] (.cons (.p2 fSub (.p2 fMul (.p2 fIx (.var 0) (.c (.int 0))) (.p2 fIx (.var 1) (.c (.int 1)))) (.p2 fMul (.p2 fIx (.var 1) (.c (.int 0))) (.p2 fIx (.var 0) (.c (.int 1))))) (.cons (.p2 fMul (.p2 fIx (.var 0) (.c (.int 1))) (.p2 fIx (.var 1) (.c (.int 1)))) .nil)))) .nil
/-- _law_times(one, other): slots one other -/
def b32 (fu : Nat) : Ss := .cons (.ret (.call 29 [] (.cons (.p2 fMul (.p2 fIx (.var 0) (.c (.int 0))) (.p2 fIx (.var 1) (.c (.int 0)))) (.cons (.p2 fMul (.p2 fIx (.var 0) (.c (.int 1))) (.p2 fIx (.var 1) (.c (.int 1)))) .nil)))) .nil
/-- _law_over(one, other): slots one other -/
def b33 (fu : Nat) : Ss := .cons (.ret (.call 29 [] (.cons (.p2 fMul (.p2 fIx (.var 0) (.c (.int 0))) (.p2 fIx (.var 1) (.c (.int 1)))) (.cons (.p2 fMul (.p2 fIx (.var 0) (.c (.int 1))) (.p2 fIx (.var 1) (.c (.int 0)))) .nil)))) .nil
/-- _law_less(one, other): slots one other -/
def b34 (fu : Nat) : Ss := .cons (.ret (.p2 fLtI (.p2 fMul (.p2 fIx (.var 0) (.c (.int 0))) (.p2 fIx (.var 1) (.c (.int 1)))) (.p2 fMul (.p2 fIx (.var 1) (.c (.int 0))) (.p2 fIx (.var 0) (.c (.int 1)))))) .nil
/-- _law_power(one, many): slots one many top bottom turn -/
def b35 (fu : Nat) : Ss := .cons (.asg (.tup [.name 2, .name 3]) (.pn fTup (.cons (.c (.int 1)) (.cons (.c (.int 1)) .nil)))) (.cons (.for_ itRange (.cons (.var 1) .nil) (.name 4) (.cons (.asg (.tup [.name 2, .name 3]) (.pn fTup (.cons (.p2 fMul (.var 2) (.p2 fIx (.var 0) (.c (.int 0)))) (.cons (.p2 fMul (.var 3) (.p2 fIx (.var 0) (.c (.int 1)))) .nil)))) .nil)) (.cons (.ret (.pn fTup (.cons (.var 2) (.cons (.var 3) .nil)))) .nil))
/-- _law_same(told, due): slots told due key k -/
def b36 (fu : Nat) : Ss := .cons (.ite (.or_ (.p2 fIs (.var 1) (.c .non)) (.p1 (fIsi ["bool"]) (.var 1))) (.cons (.ret (.cond (.p2 fIs (.var 1) (.c .non)) (.p2 fIs (.var 0) (.c .non)) (.and_ (.p1 (fIsi ["bool"]) (.var 0)) (.p2 fEq (.p2 fIs (.var 0) (.c (.bl true))) (.p2 fIs (.var 1) (.c (.bl true))))))) .nil) (.nil)) (.cons (.ite (.p1 (fIsi ["int"]) (.var 1)) (.cons (.ret (.and_ (.p1 (fIsi ["int"]) (.var 0)) (.and_ (.p1 fNot (.p1 (fIsi ["bool"]) (.var 0))) (.p2 fEq (.var 0) (.var 1))))) .nil) (.nil)) (.cons (.ite (.p1 (fIsi ["str"]) (.var 1)) (.cons (.ret (.and_ (.p1 (fIsi ["str"]) (.var 0)) (.p2 fEq (.var 0) (.var 1)))) .nil) (.nil)) (.cons (.ite (.p1 (fIsi ["dict"]) (.var 1)) (.cons (.ret (.and_ (.p1 (fIsi ["dict"]) (.var 0)) (.and_ (.p2 fEq (.pn fLen (.cons (.var 0) .nil)) (.pn fLen (.cons (.var 1) .nil))) (.p2 fEq (.lock 1 (.comp [2] itKeys (.cons (.var 1) .nil) (.name 2) (.or_ (.p2 fNotIn (.var 2) (.var 0)) (.p1 fNot (.call 36 [] (.cons (.p2 fIx (.var 0) (.var 2)) (.cons (.p2 fIx (.var 1) (.var 2)) .nil))))) (.var 2))) (.pn fLst (.nil)))))) .nil) (.nil)) (.cons (.ite (.or_ (.p1 fNot (.p1 (fIsi ["list", "tuple"]) (.var 1))) (.p1 fNot (.p1 (fIsi ["list", "tuple"]) (.var 0)))) (.cons (.ret (.c (.bl false))) .nil) (.nil)) (.cons (.ite (.or_ (.p2 fNe (.p1 (fIsi ["list"]) (.var 0)) (.p1 (fIsi ["list"]) (.var 1))) (.p2 fNe (.pn fLen (.cons (.var 0) .nil)) (.pn fLen (.cons (.var 1) .nil)))) (.cons (.ret (.c (.bl false))) .nil) (.nil)) (.cons (.ret (.p2 fEq (.comp [3] itRange (.cons (.pn fLen (.cons (.var 1) .nil)) .nil) (.name 3) (.p1 fNot (.call 36 [] (.cons (.p2 fIx (.var 0) (.var 3)) (.cons (.p2 fIx (.var 1) (.var 3)) .nil)))) (.var 3)) (.pn fLst (.nil)))) .nil))))))
/-- _law_blamed(told, word, value): slots told word value -/
def b37 (fu : Nat) : Ss := .cons (.ite (.or_ (.p2 fNe (.p2 fIx (.var 0) (.c (.int 0))) (.var 1)) (.p1 fNot (.call 36 [] (.cons (.p2 fIx (.var 0) (.c (.int 1))) (.cons (.var 2) .nil))))) (.cons (.ret (.c (.bl false))) .nil) (.nil)) (.cons (.ite (.p1 (fIsi ["list"]) (.var 2)) (.cons (.expr (.p2 fApp (.p1 fIsL (.var 2)) (.c (.int 7)))) .nil) (.nil)) (.cons (.ite (.p1 (fIsi ["dict"]) (.var 2)) (.cons (.setIx (.var 2) (.c (.str "more")) (.c (.int 7))) .nil) (.nil)) (.cons (.ret (.call 36 [] (.cons (.p2 fIx (.var 0) (.c (.int 1))) (.cons (.var 2) .nil)))) .nil)))
/-- _law_whole(value): slots value -/
def b38 (fu : Nat) : Ss := .cons (.ret (.and_ (.p1 (fIsi ["int"]) (.var 0)) (.p1 fNot (.p1 (fIsi ["bool"]) (.var 0))))) .nil
/-- _law_is_fraction(value): slots value -/
def b39 (fu : Nat) : Ss := .cons (.ite (.or_ (.p1 fNot (.p1 (fIsi ["tuple"]) (.var 0))) (.or_ (.p2 fNe (.pn fLen (.cons (.var 0) .nil)) (.c (.int 2))) (.or_ (.p1 fNot (.call 38 [] (.cons (.p2 fIx (.var 0) (.c (.int 0))) .nil))) (.p1 fNot (.call 38 [] (.cons (.p2 fIx (.var 0) (.c (.int 1))) .nil)))))) (.cons (.ret (.c (.bl false))) .nil) (.nil)) (.cons (.ret (.and_ (.p2 fGtI (.p2 fIx (.var 0) (.c (.int 1))) (.c (.int 0))) (.p2 fEq (.call 29 [] (.cons (.p2 fIx (.var 0) (.c (.int 0))) (.cons (.p2 fIx (.var 0) (.c (.int 1))) .nil))) (.var 0)))) .nil)
/-- _law_distance(box): slots box -/
def b40 (fu : Nat) : Ss := .cons (.ret (.call 29 [] (.cons (.call 27 [] (.cons (.var 0) (.cons (.pn fLst (.cons (.c (.int 1)) (.cons (.c (.int 1)) (.cons (.c (.int 2)) (.cons (.c (.int 3)) (.cons (.c (.int 4)) (.cons (.c (.int 5)) (.cons (.c (.int 7)) .nil)))))))) .nil))) (.cons (.call 27 [] (.cons (.var 0) (.cons (.pn fLst (.cons (.c (.int 1)) (.cons (.c (.int 1)) (.cons (.c (.int 2)) (.cons (.c (.int 3)) (.cons (.c (.int 4)) .nil)))))) .nil))) .nil)))) .nil
/-- _law_raised(one, many): slots one many found turn -/
def b41 (fu : Nat) : Ss := .cons (.asg (.name 2) (.c (.int 1))) (.cons (.for_ itRange (.cons (.var 1) .nil) (.name 3) (.cons (.asg (.name 2) (.p2 fMul (.var 2) (.var 0))) .nil)) (.cons (.ret (.var 2)) .nil))
/-- _law_keeps(roads, walkers, asked, ratio): slots roads walkers asked ratio whole n d rest left -/
def b42 (fu : Nat) : Ss := .cons (.asg (.name 4) (.p2 fMul (.var 0) (.var 2))) (.cons (.ite (.or_ (.p2 fGtI (.var 2) (.var 1)) (.p2 fGeI (.var 1) (.var 4))) (.cons (.ret (.p2 fLeI (.var 2) (.var 1))) .nil) (.nil)) (.cons (.asg (.tup [.name 5, .name 6]) (.pn fTup (.cons (.p2 fSub (.p2 fIx (.var 3) (.c (.int 0))) (.p2 fIx (.var 3) (.c (.int 1)))) (.cons (.p2 fMul (.c (.int 2)) (.p2 fIx (.var 3) (.c (.int 1)))) .nil)))) (.cons (.asg (.name 7) (.p2 fSub (.var 4) (.var 1))) (.cons (.asg (.name 8) (.p2 fMul (.p2 fMul (.call 41 [] (.cons (.var 5) (.cons (.var 1) .nil))) (.call 41 [] (.cons (.var 1) (.cons (.var 1) .nil)))) (.call 41 [] (.cons (.var 7) (.cons (.var 7) .nil))))) (.cons (.ret (.p2 fGeI (.var 8) (.p2 fMul (.call 41 [] (.cons (.var 4) (.cons (.var 4) .nil))) (.call 41 [] (.cons (.var 6) (.cons (.var 1) .nil)))))) .nil)))))
/-- _law_bound(roads, walkers, asked): slots roads walkers asked whole rest power each -/
def b43 (fu : Nat) : Ss := .cons (.asg (.name 3) (.p2 fMul (.var 0) (.var 2))) (.cons (.ite (.p2 fGeI (.var 1) (.var 3)) (.cons (.ret (.pn fTup (.cons (.c .non) (.cons (.pn fTup (.cons (.c (.int 1)) (.cons (.c (.int 1)) .nil))) .nil)))) .nil) (.nil)) (.cons (.asg (.name 4) (.p2 fSub (.var 3) (.var 1))) (.cons (.asg (.name 5) (.call 29 [] (.cons (.call 41 [] (.cons (.var 3) (.cons (.var 3) .nil))) (.cons (.p2 fMul (.call 41 [] (.cons (.var 1) (.cons (.var 1) .nil))) (.call 41 [] (.cons (.var 4) (.cons (.var 4) .nil)))) .nil)))) (.cons (.ite (.p2 fNe (.p2 fMod (.pn fIntC (.cons (.var 3) .nil)) (.var 1)) (.c (.int 0))) (.cons (.ret (.pn fTup (.cons (.var 5) (.cons (.c .non) .nil)))) .nil) (.nil)) (.cons (.asg (.name 6) (.p2 fDiv (.var 3) (.var 1))) (.cons (.ret (.pn fTup (.cons (.var 5) (.cons (.call 30 [] (.cons (.pn fTup (.cons (.c (.int 1)) (.cons (.c (.int 1)) .nil))) (.cons (.call 29 [] (.cons (.p2 fMul (.c (.int 2)) (.call 41 [] (.cons (.var 6) (.cons (.var 6) .nil)))) (.cons (.call 41 [] (.cons (.p2 fSub (.var 6) (.c (.int 1))) (.cons (.p2 fSub (.var 6) (.c (.int 1))) .nil))) .nil))) .nil))) .nil)))) .nil))))))
/-- _law_near(roads, walkers, asked, bottom): slots roads walkers asked bottom low high turn middle known -/
def b44 (fu : Nat) : Ss := .cons (.ite (.p2 fGeI (.var 1) (.p2 fMul (.var 0) (.var 2))) (.cons (.ret (.var 3)) .nil) (.nil)) (.cons (.asg (.tup [.name 4, .name 5]) (.pn fTup (.cons (.var 3) (.cons (.p2 fMul (.c (.int 2)) (.var 3)) .nil)))) (.cons (.for_ itRange (.cons (.c (.int 400)) .nil) (.name 6) (.cons (.ite (.call 42 [] (.cons (.var 0) (.cons (.var 1) (.cons (.var 2) (.cons (.call 29 [] (.cons (.var 5) (.cons (.var 3) .nil))) .nil))))) (.cons (.brk) .nil) (.nil)) (.cons (.asg (.tup [.name 4, .name 5]) (.pn fTup (.cons (.var 5) (.cons (.p2 fMul (.c (.int 2)) (.var 5)) .nil)))) .nil))) (.cons (.for_ itRange (.cons (.c (.int 400)) .nil) (.name 6) (.cons (.ite (.p2 fEq (.p2 fSub (.var 5) (.var 4)) (.c (.int 1))) (.cons (.brk) .nil) (.nil)) (.cons (.asg (.name 7) (.p2 fDiv (.p2 fAdd (.var 4) (.var 5)) (.c (.int 2)))) (.cons (.ite (.call 42 [] (.cons (.var 0) (.cons (.var 1) (.cons (.var 2) (.cons (.call 29 [] (.cons (.var 7) (.cons (.var 3) .nil))) .nil))))) (.cons (.asg (.name 5) (.var 7)) .nil) (.cons (.asg (.name 4) (.var 7)) .nil)) .nil)))) (.cons (.asg (.name 8) (.p2 fIx (.call 43 [] (.cons (.var 0) (.cons (.var 1) (.cons (.var 2) .nil)))) (.c (.int 1)))) (.cons (.ret (.cond (.and_ (.p2 fIsNot (.var 8) (.c .non)) (.p2 fEq (.call 29 [] (.cons (.var 5) (.cons (.var 3) .nil))) (.var 8))) (.var 5) (.p2 fSub (.var 5) (.c (.int 1))))) .nil)))))
/-- _law_called(which, args, named): slots which args named e -/
def b45 (fu : Nat) : Ss := .cons (.tri (.cons (.ite (.p2 fEq (.var 0) (.c (.int 0))) (.cons (.ret (.pn fLst (.cons (.c (.str "told")) (.cons (.cond (.var 2) (.call 21 [3, 2, 1, 0] (.cons (.p2 fIx (.var 1) (.c (.int 3))) (.cons (.p2 fIx (.var 1) (.c (.int 2))) (.cons (.p2 fIx (.var 1) (.c (.int 1))) (.cons (.p2 fIx (.var 1) (.c (.int 0))) .nil))))) (.call 21 [] (.cons (.p2 fIx (.var 1) (.c (.int 0))) (.cons (.p2 fIx (.var 1) (.c (.int 1))) (.cons (.p2 fIx (.var 1) (.c (.int 2))) (.cons (.p2 fIx (.var 1) (.c (.int 3))) .nil)))))) .nil)))) .nil) (.nil)) (.cons (.ite (.p2 fEq (.var 0) (.c (.int 1))) (.cons (.ret (.pn fLst (.cons (.c (.str "told")) (.cons (.cond (.var 2) (.call 23 [3, 2, 1, 0] (.cons (.p2 fIx (.var 1) (.c (.int 3))) (.cons (.p2 fIx (.var 1) (.c (.int 2))) (.cons (.p2 fIx (.var 1) (.c (.int 1))) (.cons (.p2 fIx (.var 1) (.c (.int 0))) .nil))))) (.call 23 [] (.cons (.p2 fIx (.var 1) (.c (.int 0))) (.cons (.p2 fIx (.var 1) (.c (.int 1))) (.cons (.p2 fIx (.var 1) (.c (.int 2))) (.cons (.p2 fIx (.var 1) (.c (.int 3))) .nil)))))) .nil)))) .nil) (.nil)) (.cons (.ret (.pn fLst (.cons (.c (.str "told")) (.cons (.cond (.var 2) (.call 24 [3, 2, 1, 0] (.cons (.p2 fIx (.var 1) (.c (.int 3))) (.cons (.p2 fIx (.var 1) (.c (.int 2))) (.cons (.p2 fIx (.var 1) (.c (.int 1))) (.cons (.p2 fIx (.var 1) (.c (.int 0))) .nil))))) (.call 24 [] (.cons (.p2 fIx (.var 1) (.c (.int 0))) (.cons (.p2 fIx (.var 1) (.c (.int 1))) (.cons (.p2 fIx (.var 1) (.c (.int 2))) (.cons (.p2 fIx (.var 1) (.c (.int 3))) .nil)))))) .nil)))) .nil))) (.cons "InvalidRoads" (some (3, 4, ["given"])) (.pn fLst (.cons (.c (.str "roads")) (.cons (.var 4) .nil))) (.cons "InvalidWalkers" (some (3, 4, ["given"])) (.pn fLst (.cons (.c (.str "walkers")) (.cons (.var 4) .nil))) (.cons "InvalidAsked" (some (3, 4, ["given"])) (.pn fLst (.cons (.c (.str "asked")) (.cons (.var 4) .nil))) (.cons "InvalidBase" (some (3, 4, ["given"])) (.pn fLst (.cons (.c (.str "base")) (.cons (.var 4) .nil))) (.cons "InvalidNumber" (some (3, 4, ["given"])) (.pn fLst (.cons (.c (.str "number")) (.cons (.var 4) .nil))) .nil)))))) .nil
/-- _law_refused(box, named): slots box named which wrong k at args told walkers asked -/
def b46 (fu : Nat) : Ss := .cons (.for_ itRange (.cons (.c (.int 3)) .nil) (.name 2) (.cons (.asg (.name 3) (.comp [4] itRange (.cons (.c (.int 3)) .nil) (.name 4) (.c (.bl true)) (.call 27 [] (.cons (.var 0) (.cons (.pn fLst (.cons (.c (.int 0)) (.cons (.c (.int 6)) (.cons (.p1 fNeg (.c (.int 1))) (.cons (.c .non) (.cons (.c (.bl true)) (.cons (.c (.str "1")) (.cons (.pn fTup (.cons (.c (.int 1)) (.cons (.c (.int 1)) .nil))) (.cons (.pn fLst (.cons (.c (.int 2)) .nil)) .nil))))))))) .nil))))) (.cons (.expr (.p2 fApp (.p1 fIsL (.var 3)) (.call 27 [] (.cons (.var 0) (.cons (.cond (.p2 fEq (.var 2) (.c (.int 1))) (.pn fLst (.cons (.pn fTup (.cons (.c (.int 1)) (.cons (.c (.int 1)) .nil))) (.cons (.pn fTup (.cons (.c (.int 1)) (.cons (.c (.int 2)) .nil))) (.cons (.pn fTup (.cons (.c (.int 0)) (.cons (.c (.int 1)) .nil))) (.cons (.pn fTup (.cons (.p1 fNeg (.c (.int 2))) (.cons (.c (.int 1)) .nil))) (.cons (.pn fTup (.cons (.c (.int 4)) (.cons (.c (.int 2)) .nil))) (.cons (.c (.int 3)) (.cons (.c .non) (.cons (.c (.str "2")) (.cons (.pn fLst (.cons (.c (.int 2)) (.cons (.c (.int 1)) .nil))) (.cons (.pn fTup (.cons (.c (.int 3)) (.cons (.c (.int 0)) .nil))) (.cons (.pn fDNew .nil) .nil)))))))))))) (.pn fLst (.cons (.c (.int 0)) (.cons (.p1 fNeg (.c (.int 1))) (.cons (.c .non) (.cons (.c (.bl true)) (.cons (.c (.str "7")) (.cons (.pn fTup (.cons (.c (.int 7)) (.cons (.c (.int 1)) .nil))) (.cons (.pn fLst (.cons (.c (.int 7)) .nil)) (.cons (.pn fDNew .nil) .nil)))))))))) .nil))))) (.cons (.for_ itRange (.cons (.c (.int 4)) .nil) (.name 5) (.cons (.asg (.name 6) (.pn fLst (.cons (.p2 fAdd (.c (.int 1)) (.call 26 [] (.cons (.var 0) (.cons (.c (.int 5)) .nil)))) (.cons (.p2 fAdd (.c (.int 1)) (.call 26 [] (.cons (.var 0) (.cons (.c (.int 5)) .nil)))) (.cons (.c (.int 1)) (.cons (.cond (.p2 fEq (.var 2) (.c (.int 1))) (.pn fTup (.cons (.c (.int 2)) (.cons (.c (.int 1)) .nil))) (.c (.int 3))) .nil)))))) (.cons (.setIx (.var 6) (.var 5) (.p2 fIx (.var 3) (.var 5))) (.cons (.ite (.p2 fEq (.call 26 [] (.cons (.var 0) (.cons (.c (.int 2)) .nil))) (.c (.int 0))) (.cons (.asg (.name 6) (.p2 fAdd (.pn fSl (.cons (.var 6) (.cons (.c .non) (.cons (.p1 fInt (.p2 fAdd (.var 5) (.c (.int 1)))) .nil)))) (.pn fSl (.cons (.var 3) (.cons (.p1 fInt (.p2 fAdd (.var 5) (.c (.int 1)))) (.cons (.c .non) .nil)))))) .nil) (.nil)) (.cons (.asg (.name 7) (.call 45 [] (.cons (.var 2) (.cons (.var 6) (.cons (.var 1) .nil))))) (.cons (.ite (.or_ (.p2 fNe (.p2 fIx (.var 7) (.c (.int 0))) (.p2 fIx (.pn fLst (.cons (.c (.str "roads")) (.cons (.c (.str "walkers")) (.cons (.c (.str "asked")) (.cons (.cond (.p2 fEq (.var 2) (.c (.int 1))) (.c (.str "base")) (.c (.str "number"))) .nil))))) (.var 5))) (.p1 fNot (.call 37 [] (.cons (.var 7) (.cons (.p2 fIx (.var 7) (.c (.int 0))) (.cons (.p2 fIx (.var 3) (.var 5)) .nil)))))) (.cons (.ret (.c (.bl false))) .nil) (.nil)) (.cons (.asg (.name 1) (.p1 fNot (.var 1))) .nil))))))) (.cons (.asg (.name 8) (.p2 fAdd (.c (.int 1)) (.call 26 [] (.cons (.var 0) (.cons (.c (.int 4)) .nil))))) (.cons (.asg (.name 9) (.p2 fAdd (.p2 fAdd (.var 8) (.c (.int 1))) (.call 26 [] (.cons (.var 0) (.cons (.p2 fSub (.c (.int 5)) (.var 8)) .nil))))) (.cons (.ite (.p1 fNot (.call 36 [] (.cons (.call 45 [] (.cons (.var 2) (.cons (.pn fLst (.cons (.p2 fAdd (.c (.int 1)) (.call 26 [] (.cons (.var 0) (.cons (.c (.int 5)) .nil)))) (.cons (.var 8) (.cons (.var 9) (.cons (.c .non) .nil))))) (.cons (.var 1) .nil)))) (.cons (.pn fLst (.cons (.c (.str "asked")) (.cons (.var 9) .nil))) .nil)))) (.cons (.ret (.c (.bl false))) .nil) (.nil)) .nil))))))) (.cons (.ret (.c (.bl true))) .nil)
/-- _law_ratio_by(roads, walkers, asked, base): slots roads walkers asked base whole -/
def b47 (fu : Nat) : Ss := .cons (.asg (.name 4) (.p2 fMul (.var 0) (.var 2))) (.cons (.ret (.call 30 [] (.cons (.pn fTup (.cons (.c (.int 1)) (.cons (.c (.int 1)) .nil))) (.cons (.call 32 [] (.cons (.pn fTup (.cons (.c (.int 2)) (.cons (.c (.int 1)) .nil))) (.cons (.call 33 [] (.cons (.call 35 [] (.cons (.var 3) (.cons (.var 4) .nil))) (.cons (.call 31 [] (.cons (.call 35 [] (.cons (.var 3) (.cons (.var 1) .nil))) (.cons (.pn fTup (.cons (.c (.int 1)) (.cons (.c (.int 1)) .nil))) .nil))) .nil))) .nil))) .nil)))) .nil)
/-- _law_is_best(roads, walkers, asked, bottom, value): slots roads walkers asked bottom value here more other -/
def b48 (fu : Nat) : Ss := .cons (.ite (.or_ (.p1 fNot (.call 39 [] (.cons (.var 4) .nil))) (.or_ (.p1 fNot (.call 34 [] (.cons (.pn fTup (.cons (.c (.int 1)) (.cons (.c (.int 1)) .nil))) (.cons (.var 4) .nil)))) (.p2 fNe (.p2 fMod (.pn fIntC (.cons (.p2 fMul (.p2 fIx (.var 4) (.c (.int 0))) (.var 3)) .nil)) (.p2 fIx (.var 4) (.c (.int 1)))) (.c (.int 0))))) (.cons (.ret (.c (.bl false))) .nil) (.nil)) (.cons (.asg (.name 5) (.call 47 [] (.cons (.var 0) (.cons (.var 1) (.cons (.var 2) (.cons (.var 4) .nil)))))) (.cons (.for_ itSeq (.cons (.pn fTup (.cons (.pn fTup (.cons (.p1 fNeg (.c (.int 1))) (.cons (.var 3) .nil))) (.cons (.pn fTup (.cons (.c (.int 1)) (.cons (.var 3) .nil))) .nil))) .nil) (.name 6) (.cons (.asg (.name 7) (.call 30 [] (.cons (.var 4) (.cons (.call 29 [] (.cons (.p2 fIx (.var 6) (.c (.int 0))) (.cons (.p2 fIx (.var 6) (.c (.int 1))) .nil))) .nil)))) (.cons (.ite (.and_ (.call 34 [] (.cons (.pn fTup (.cons (.c (.int 1)) (.cons (.c (.int 1)) .nil))) (.cons (.var 7) .nil))) (.call 34 [] (.cons (.call 47 [] (.cons (.var 0) (.cons (.var 1) (.cons (.var 2) (.cons (.var 7) .nil))))) (.cons (.var 5) .nil)))) (.cons (.ret (.c (.bl false))) .nil) (.nil)) .nil))) (.cons (.ret (.c (.bl true))) .nil)))
/-- law(script): slots script k box named turn roads walkers asked bottom at base due told -/
def b49 (fu : Nat) : Ss := .cons (.for_ itRange (.cons (.c (.int 2)) .nil) (.name 1) (.cons (.asg (.name 2) (.call 25 [] (.cons (.call 28 [] (.cons (.var 0) (.cons (.var 1) .nil))) .nil))) (.cons (.asg (.name 3) (.p2 fEq (.call 26 [] (.cons (.var 2) (.cons (.c (.int 2)) .nil))) (.c (.int 0)))) (.cons (.for_ itRange (.cons (.c (.int 6)) .nil) (.name 4) (.cons (.asg (.tup [.name 5, .name 6]) (.pn fTup (.cons (.p2 fAdd (.c (.int 1)) (.call 26 [] (.cons (.var 2) (.cons (.c (.int 5)) .nil)))) (.cons (.p2 fAdd (.c (.int 1)) (.call 26 [] (.cons (.var 2) (.cons (.c (.int 5)) .nil)))) .nil)))) (.cons (.asg (.tup [.name 7, .name 8]) (.pn fTup (.cons (.p2 fAdd (.c (.int 1)) (.call 26 [] (.cons (.var 2) (.cons (.var 6) .nil)))) (.cons (.call 27 [] (.cons (.var 2) (.cons (.pn fLst (.cons (.c (.int 1)) (.cons (.c (.int 2)) (.cons (.c (.int 10)) (.cons (.c (.int 60)) (.cons (.c (.int 997)) (.cons (.p2 fPow (.c (.int 10)) (.c (.int 6))) (.cons (.p2 fPow (.c (.int 10)) (.c (.int 18))) .nil)))))))) .nil))) .nil)))) (.cons (.asg (.name 9) (.call 44 [] (.cons (.var 5) (.cons (.var 6) (.cons (.var 7) (.cons (.var 8) .nil)))))) (.cons (.ite (.p1 fNot (.call 36 [] (.cons (.call 45 [] (.cons (.c (.int 0)) (.cons (.pn fLst (.cons (.var 5) (.cons (.var 6) (.cons (.var 7) (.cons (.var 8) .nil))))) (.cons (.var 3) .nil)))) (.cons (.pn fLst (.cons (.c (.str "told")) (.cons (.pn fTup (.cons (.call 29 [] (.cons (.var 9) (.cons (.var 8) .nil))) (.cons (.call 29 [] (.cons (.p2 fAdd (.var 9) (.c (.int 1))) (.cons (.var 8) .nil))) .nil))) .nil))) .nil)))) (.cons (.ret (.c (.bl false))) .nil) (.nil)) (.cons (.asg (.name 10) (.call 27 [] (.cons (.var 2) (.cons (.pn fLst (.cons (.pn fTup (.cons (.c (.int 2)) (.cons (.c (.int 1)) .nil))) (.cons (.pn fTup (.cons (.c (.int 3)) (.cons (.c (.int 2)) .nil))) (.cons (.pn fTup (.cons (.c (.int 11)) (.cons (.c (.int 10)) .nil))) (.cons (.pn fTup (.cons (.c (.int 10)) (.cons (.c (.int 1)) .nil))) (.cons (.call 30 [] (.cons (.pn fTup (.cons (.c (.int 1)) (.cons (.c (.int 1)) .nil))) (.cons (.call 40 [] (.cons (.var 2) .nil)) .nil))) (.cons (.pn fTup (.cons (.p2 fAdd (.p2 fPow (.c (.int 10)) (.c (.int 9))) (.c (.int 1))) (.cons (.p2 fPow (.c (.int 10)) (.c (.int 9))) .nil))) .nil))))))) .nil)))) (.cons (.asg (.name 11) (.call 47 [] (.cons (.var 5) (.cons (.var 6) (.cons (.var 7) (.cons (.var 10) .nil)))))) (.cons (.ite (.or_ (.p1 fNot (.call 36 [] (.cons (.call 45 [] (.cons (.c (.int 1)) (.cons (.pn fLst (.cons (.var 5) (.cons (.var 6) (.cons (.var 7) (.cons (.var 10) .nil))))) (.cons (.p1 fNot (.var 3)) .nil)))) (.cons (.pn fLst (.cons (.c (.str "told")) (.cons (.var 11) .nil))) .nil)))) (.p1 fNot (.call 42 [] (.cons (.var 5) (.cons (.var 6) (.cons (.var 7) (.cons (.var 11) .nil))))))) (.cons (.ret (.c (.bl false))) .nil) (.nil)) (.cons (.asg (.tup [.name 12, .name 8]) (.pn fTup (.cons (.call 45 [] (.cons (.c (.int 2)) (.cons (.pn fLst (.cons (.var 5) (.cons (.var 6) (.cons (.var 7) (.cons (.pn fMin (.cons (.var 8) (.cons (.p2 fPow (.c (.int 10)) (.c (.int 6))) .nil))) .nil))))) (.cons (.var 3) .nil)))) (.cons (.pn fMin (.cons (.var 8) (.cons (.p2 fPow (.c (.int 10)) (.c (.int 6))) .nil))) .nil)))) (.cons (.ite (.or_ (.p1 fNot (.call 36 [] (.cons (.call 45 [] (.cons (.c (.int 2)) (.cons (.pn fLst (.cons (.var 5) (.cons (.var 6) (.cons (.var 7) (.cons (.var 8) .nil))))) (.cons (.p1 fNot (.var 3)) .nil)))) (.cons (.var 12) .nil)))) (.p2 fNe (.p2 fIx (.var 12) (.c (.int 0))) (.c (.str "told")))) (.cons (.ret (.c (.bl false))) .nil) (.nil)) (.cons (.ite (.or_ (.and_ (.p2 fGeI (.var 6) (.p2 fMul (.var 5) (.var 7))) (.p2 fIsNot (.p2 fIx (.var 12) (.c (.int 1))) (.c .non))) (.and_ (.p2 fLtI (.var 6) (.p2 fMul (.var 5) (.var 7))) (.p1 fNot (.call 48 [] (.cons (.var 5) (.cons (.var 6) (.cons (.var 7) (.cons (.var 8) (.cons (.p2 fIx (.var 12) (.c (.int 1))) .nil))))))))) (.cons (.ret (.c (.bl false))) .nil) (.nil)) (.cons (.asg (.name 3) (.p1 fNot (.var 3))) .nil)))))))))))) (.cons (.ite (.p1 fNot (.call 46 [] (.cons (.var 2) (.cons (.var 3) .nil)))) (.cons (.ret (.c (.bl false))) .nil) (.nil)) .nil))))) (.cons (.ret (.c (.bl true))) .nil)
def fd0 (fu : Nat) : FD := ⟨1, 1, .gen, b0 fu⟩
def fd1 (fu : Nat) : FD := ⟨3, 3, .gen, b1 fu⟩
def fd2 (fu : Nat) : FD := ⟨2, 2, .gen, b2 fu⟩
def fd3 (fu : Nat) : FD := ⟨2, 3, .gen, b3 fu⟩
def fd4 (fu : Nat) : FD := ⟨1, 1, .gen, b4 fu⟩
def fd5 (fu : Nat) : FD := ⟨2, 2, .gen, b5 fu⟩
def fd6 (fu : Nat) : FD := ⟨2, 2, .gen, b6 fu⟩
def fd7 (fu : Nat) : FD := ⟨2, 2, .gen, b7 fu⟩
def fd8 (fu : Nat) : FD := ⟨2, 2, .gen, b8 fu⟩
def fd9 (fu : Nat) : FD := ⟨2, 4, .gen, b9 fu⟩
def fd10 (fu : Nat) : FD := ⟨2, 5, .gen, b10 fu⟩
def fd11 (fu : Nat) : FD := ⟨2, 2, .gen, b11 fu⟩
def fd12 (fu : Nat) : FD := ⟨2, 5, .gen, b12 fu⟩
def fd13 (fu : Nat) : FD := ⟨3, 3, .gen, b13 fu⟩
def fd14 (fu : Nat) : FD := ⟨1, 1, .gen, b14 fu⟩
def fd15 (fu : Nat) : FD := ⟨1, 1, .gen, b15 fu⟩
def fd16 (fu : Nat) : FD := ⟨1, 1, .gen, b16 fu⟩
def fd17 (fu : Nat) : FD := ⟨3, 3, .gen, b17 fu⟩
def fd18 (fu : Nat) : FD := ⟨3, 3, .gen, b18 fu⟩
def fd19 (fu : Nat) : FD := ⟨1, 1, .gen, b19 fu⟩
def fd20 (fu : Nat) : FD := ⟨2, 4, .gen, b20 fu⟩
def fd21 (fu : Nat) : FD := ⟨4, 6, .gen, b21 fu⟩
def fd22 (fu : Nat) : FD := ⟨3, 4, .gen, b22 fu⟩
def fd23 (fu : Nat) : FD := ⟨4, 4, .gen, b23 fu⟩
def fd24 (fu : Nat) : FD := ⟨4, 10, .gen, b24 fu⟩
def fd25 (fu : Nat) : FD := ⟨1, 2, .gen, b25 fu⟩
def fd26 (fu : Nat) : FD := ⟨2, 3, .gen, b26 fu⟩
def fd27 (fu : Nat) : FD := ⟨2, 2, .gen, b27 fu⟩
def fd28 (fu : Nat) : FD := ⟨2, 2, .gen, b28 fu⟩
def fd29 (fu : Nat) : FD := ⟨2, 4, .gen, b29 fu⟩
def fd30 (fu : Nat) : FD := ⟨2, 2, .gen, b30 fu⟩
def fd31 (fu : Nat) : FD := ⟨2, 2, .gen, b31 fu⟩
def fd32 (fu : Nat) : FD := ⟨2, 2, .gen, b32 fu⟩
def fd33 (fu : Nat) : FD := ⟨2, 2, .gen, b33 fu⟩
def fd34 (fu : Nat) : FD := ⟨2, 2, .gen, b34 fu⟩
def fd35 (fu : Nat) : FD := ⟨2, 5, .gen, b35 fu⟩
def fd36 (fu : Nat) : FD := ⟨2, 4, .gen, b36 fu⟩
def fd37 (fu : Nat) : FD := ⟨3, 3, .gen, b37 fu⟩
def fd38 (fu : Nat) : FD := ⟨1, 1, .gen, b38 fu⟩
def fd39 (fu : Nat) : FD := ⟨1, 1, .gen, b39 fu⟩
def fd40 (fu : Nat) : FD := ⟨1, 1, .gen, b40 fu⟩
def fd41 (fu : Nat) : FD := ⟨2, 4, .gen, b41 fu⟩
def fd42 (fu : Nat) : FD := ⟨4, 9, .gen, b42 fu⟩
def fd43 (fu : Nat) : FD := ⟨3, 7, .gen, b43 fu⟩
def fd44 (fu : Nat) : FD := ⟨4, 9, .gen, b44 fu⟩
def fd45 (fu : Nat) : FD := ⟨3, 4, .gen, b45 fu⟩
def fd46 (fu : Nat) : FD := ⟨2, 10, .gen, b46 fu⟩
def fd47 (fu : Nat) : FD := ⟨4, 5, .gen, b47 fu⟩
def fd48 (fu : Nat) : FD := ⟨5, 8, .gen, b48 fu⟩
def fd49 (fu : Nat) : FD := ⟨1, 13, .gen, b49 fu⟩
def pr (fu : Nat) : Prog := fun f => match f with
  | 0 => some (fd0 fu)
  | 1 => some (fd1 fu)
  | 2 => some (fd2 fu)
  | 3 => some (fd3 fu)
  | 4 => some (fd4 fu)
  | 5 => some (fd5 fu)
  | 6 => some (fd6 fu)
  | 7 => some (fd7 fu)
  | 8 => some (fd8 fu)
  | 9 => some (fd9 fu)
  | 10 => some (fd10 fu)
  | 11 => some (fd11 fu)
  | 12 => some (fd12 fu)
  | 13 => some (fd13 fu)
  | 14 => some (fd14 fu)
  | 15 => some (fd15 fu)
  | 16 => some (fd16 fu)
  | 17 => some (fd17 fu)
  | 18 => some (fd18 fu)
  | 19 => some (fd19 fu)
  | 20 => some (fd20 fu)
  | 21 => some (fd21 fu)
  | 22 => some (fd22 fu)
  | 23 => some (fd23 fu)
  | 24 => some (fd24 fu)
  | 25 => some (fd25 fu)
  | 26 => some (fd26 fu)
  | 27 => some (fd27 fu)
  | 28 => some (fd28 fu)
  | 29 => some (fd29 fu)
  | 30 => some (fd30 fu)
  | 31 => some (fd31 fu)
  | 32 => some (fd32 fu)
  | 33 => some (fd33 fu)
  | 34 => some (fd34 fu)
  | 35 => some (fd35 fu)
  | 36 => some (fd36 fu)
  | 37 => some (fd37 fu)
  | 38 => some (fd38 fu)
  | 39 => some (fd39 fu)
  | 40 => some (fd40 fu)
  | 41 => some (fd41 fu)
  | 42 => some (fd42 fu)
  | 43 => some (fd43 fu)
  | 44 => some (fd44 fu)
  | 45 => some (fd45 fu)
  | 46 => some (fd46 fu)
  | 47 => some (fd47 fu)
  | 48 => some (fd48 fu)
  | 49 => some (fd49 fu)
  | _ => none
structure Ad where
  f : Nat → Addr
  d : Nat → FuncData
  c : Nat → Addr
  ci : Nat → Addr
  cd : Nat → FuncData
def cxl (ad : Ad) : Str → Option Addr := fun x => if x = "InvalidAsked" then some (ad.c 0) else if x = "InvalidBase" then some (ad.c 1) else if x = "InvalidNumber" then some (ad.c 2) else if x = "InvalidRoads" then some (ad.c 3) else if x = "InvalidWalkers" then some (ad.c 4) else none
structure Fs (w : World) (K : PySem.W.Frag) (mg : Str → Option Value) (base : Heap) (ad : Ad) (k : Nat) (C : CallT) : Prop where
  f0 : FL P w K mg base (cxl ad) k C 0 "is_integer" ["value"] (ad.f 0) (ad.d 0)
  f1 : FL P w K mg base (cxl ad) k C 1 "is_between" ["value", "least", "most"] (ad.f 1) (ad.d 1)
  f2 : FL P w K mg base (cxl ad) k C 2 "is_tuple_of" ["value", "many"] (ad.f 2) (ad.d 2)
  f3 : FL P w K mg base (cxl ad) k C 3 "fraction_of" ["n", "d"] (ad.f 3) (ad.d 3)
  f4 : FL P w K mg base (cxl ad) k C 4 "is_fraction" ["value"] (ad.f 4) (ad.d 4)
  f5 : FL P w K mg base (cxl ad) k C 5 "sum_of" ["one", "other"] (ad.f 5) (ad.d 5)
  f6 : FL P w K mg base (cxl ad) k C 6 "difference_of" ["one", "other"] (ad.f 6) (ad.d 6)
  f7 : FL P w K mg base (cxl ad) k C 7 "times_of" ["one", "other"] (ad.f 7) (ad.d 7)
  f8 : FL P w K mg base (cxl ad) k C 8 "over_of" ["one", "other"] (ad.f 8) (ad.d 8)
  f9 : FL P w K mg base (cxl ad) k C 9 "order_of" ["one", "other"] (ad.f 9) (ad.d 9)
  f10 : FL P w K mg base (cxl ad) k C 10 "whole_power" ["number", "exponent"] (ad.f 10) (ad.d 10)
  f11 : FL P w K mg base (cxl ad) k C 11 "power_of" ["one", "exponent"] (ad.f 11) (ad.d 11)
  f12 : FL P w K mg base (cxl ad) k C 12 "whole_root" ["number", "exponent"] (ad.f 12) (ad.d 12)
  f13 : FL P w K mg base (cxl ad) k C 13 "root_below_of" ["one", "exponent", "d"] (ad.f 13) (ad.d 13)
  f14 : FL P w K mg base (cxl ad) k C 14 "check_roads" ["roads"] (ad.f 14) (ad.d 14)
  f15 : FL P w K mg base (cxl ad) k C 15 "check_walkers" ["walkers"] (ad.f 15) (ad.d 15)
  f16 : FL P w K mg base (cxl ad) k C 16 "check_asked" ["asked"] (ad.f 16) (ad.d 16)
  f17 : FL P w K mg base (cxl ad) k C 17 "check_numbers" ["roads", "walkers", "asked"] (ad.f 17) (ad.d 17)
  f18 : FL P w K mg base (cxl ad) k C 18 "check_team" ["roads", "walkers", "asked"] (ad.f 18) (ad.d 18)
  f19 : FL P w K mg base (cxl ad) k C 19 "check_bottom" ["bottom"] (ad.f 19) (ad.d 19)
  f20 : FL P w K mg base (cxl ad) k C 20 "power_by" ["whole", "walkers"] (ad.f 20) (ad.d 20)
  f21 : FL P w K mg base (cxl ad) k C 21 "bound_between" ["roads", "walkers", "asked", "bottom"] (ad.f 21) (ad.d 21)
  f22 : FL P w K mg base (cxl ad) k C 22 "ratio_of_base" ["whole", "walkers", "base"] (ad.f 22) (ad.d 22)
  f23 : FL P w K mg base (cxl ad) k C 23 "base_ratio" ["roads", "walkers", "asked", "base"] (ad.f 23) (ad.d 23)
  f24 : FL P w K mg base (cxl ad) k C 24 "best_over" ["roads", "walkers", "asked", "bottom"] (ad.f 24) (ad.d 24)
  f25 : FL P w K mg base (cxl ad) k C 25 "_law_box" ["great"] (ad.f 25) (ad.d 25)
  f26 : FL P w K mg base (cxl ad) k C 26 "_law_take" ["box", "many"] (ad.f 26) (ad.d 26)
  f27 : FL P w K mg base (cxl ad) k C 27 "_law_pick" ["box", "some"] (ad.f 27) (ad.d 27)
  f28 : FL P w K mg base (cxl ad) k C 28 "_law_cell" ["script", "k"] (ad.f 28) (ad.d 28)
  f29 : FL P w K mg base (cxl ad) k C 29 "_law_low" ["top", "bottom"] (ad.f 29) (ad.d 29)
  f30 : FL P w K mg base (cxl ad) k C 30 "_law_plus" ["one", "other"] (ad.f 30) (ad.d 30)
  f31 : FL P w K mg base (cxl ad) k C 31 "_law_minus" ["one", "other"] (ad.f 31) (ad.d 31)
  f32 : FL P w K mg base (cxl ad) k C 32 "_law_times" ["one", "other"] (ad.f 32) (ad.d 32)
  f33 : FL P w K mg base (cxl ad) k C 33 "_law_over" ["one", "other"] (ad.f 33) (ad.d 33)
  f34 : FL P w K mg base (cxl ad) k C 34 "_law_less" ["one", "other"] (ad.f 34) (ad.d 34)
  f35 : FL P w K mg base (cxl ad) k C 35 "_law_power" ["one", "many"] (ad.f 35) (ad.d 35)
  f36 : FL P w K mg base (cxl ad) k C 36 "_law_same" ["told", "due"] (ad.f 36) (ad.d 36)
  f37 : FL P w K mg base (cxl ad) k C 37 "_law_blamed" ["told", "word", "value"] (ad.f 37) (ad.d 37)
  f38 : FL P w K mg base (cxl ad) k C 38 "_law_whole" ["value"] (ad.f 38) (ad.d 38)
  f39 : FL P w K mg base (cxl ad) k C 39 "_law_is_fraction" ["value"] (ad.f 39) (ad.d 39)
  f40 : FL P w K mg base (cxl ad) k C 40 "_law_distance" ["box"] (ad.f 40) (ad.d 40)
  f41 : FL P w K mg base (cxl ad) k C 41 "_law_raised" ["one", "many"] (ad.f 41) (ad.d 41)
  f42 : FL P w K mg base (cxl ad) k C 42 "_law_keeps" ["roads", "walkers", "asked", "ratio"] (ad.f 42) (ad.d 42)
  f43 : FL P w K mg base (cxl ad) k C 43 "_law_bound" ["roads", "walkers", "asked"] (ad.f 43) (ad.d 43)
  f44 : FL P w K mg base (cxl ad) k C 44 "_law_near" ["roads", "walkers", "asked", "bottom"] (ad.f 44) (ad.d 44)
  f45 : FL P w K mg base (cxl ad) k C 45 "_law_called" ["which", "args", "named"] (ad.f 45) (ad.d 45)
  f46 : FL P w K mg base (cxl ad) k C 46 "_law_refused" ["box", "named"] (ad.f 46) (ad.d 46)
  f47 : FL P w K mg base (cxl ad) k C 47 "_law_ratio_by" ["roads", "walkers", "asked", "base"] (ad.f 47) (ad.d 47)
  f48 : FL P w K mg base (cxl ad) k C 48 "_law_is_best" ["roads", "walkers", "asked", "bottom", "value"] (ad.f 48) (ad.d 48)
  f49 : FL P w K mg base (cxl ad) k C 49 "law" ["script"] (ad.f 49) (ad.d 49)
structure Ss_ (K : PySem.W.Frag) (mg : Str → Option Value) (ad : Ad) : Prop where
  f0 : mg "is_integer" = some (.ref (ad.f 0)) ∧ PySem.W.keepIn K (.ref (ad.f 0)) = true ∧ Binds K (ad.d 0) ["value"] [] ∧ Fun K "is_integer" "is_integer" (top 9) (ad.f 0) (ad.d 0)
  f1 : mg "is_between" = some (.ref (ad.f 1)) ∧ PySem.W.keepIn K (.ref (ad.f 1)) = true ∧ Binds K (ad.d 1) ["value", "least", "most"] [] ∧ Fun K "is_between" "is_between" (top 10) (ad.f 1) (ad.d 1)
  f2 : mg "is_tuple_of" = some (.ref (ad.f 2)) ∧ PySem.W.keepIn K (.ref (ad.f 2)) = true ∧ Binds K (ad.d 2) ["value", "many"] [] ∧ Fun K "is_tuple_of" "is_tuple_of" (top 11) (ad.f 2) (ad.d 2)
  f3 : mg "fraction_of" = some (.ref (ad.f 3)) ∧ PySem.W.keepIn K (.ref (ad.f 3)) = true ∧ Binds K (ad.d 3) ["n", "d"] [] ∧ Fun K "fraction_of" "fraction_of" (top 14) (ad.f 3) (ad.d 3)
  f4 : mg "is_fraction" = some (.ref (ad.f 4)) ∧ PySem.W.keepIn K (.ref (ad.f 4)) = true ∧ Binds K (ad.d 4) ["value"] [] ∧ Fun K "is_fraction" "is_fraction" (top 15) (ad.f 4) (ad.d 4)
  f5 : mg "sum_of" = some (.ref (ad.f 5)) ∧ PySem.W.keepIn K (.ref (ad.f 5)) = true ∧ Binds K (ad.d 5) ["one", "other"] [] ∧ Fun K "sum_of" "sum_of" (top 16) (ad.f 5) (ad.d 5)
  f6 : mg "difference_of" = some (.ref (ad.f 6)) ∧ PySem.W.keepIn K (.ref (ad.f 6)) = true ∧ Binds K (ad.d 6) ["one", "other"] [] ∧ Fun K "difference_of" "difference_of" (top 17) (ad.f 6) (ad.d 6)
  f7 : mg "times_of" = some (.ref (ad.f 7)) ∧ PySem.W.keepIn K (.ref (ad.f 7)) = true ∧ Binds K (ad.d 7) ["one", "other"] [] ∧ Fun K "times_of" "times_of" (top 18) (ad.f 7) (ad.d 7)
  f8 : mg "over_of" = some (.ref (ad.f 8)) ∧ PySem.W.keepIn K (.ref (ad.f 8)) = true ∧ Binds K (ad.d 8) ["one", "other"] [] ∧ Fun K "over_of" "over_of" (top 19) (ad.f 8) (ad.d 8)
  f9 : mg "order_of" = some (.ref (ad.f 9)) ∧ PySem.W.keepIn K (.ref (ad.f 9)) = true ∧ Binds K (ad.d 9) ["one", "other"] [] ∧ Fun K "order_of" "order_of" (top 20) (ad.f 9) (ad.d 9)
  f10 : mg "whole_power" = some (.ref (ad.f 10)) ∧ PySem.W.keepIn K (.ref (ad.f 10)) = true ∧ Binds K (ad.d 10) ["number", "exponent"] [] ∧ Fun K "whole_power" "whole_power" (top 22) (ad.f 10) (ad.d 10)
  f11 : mg "power_of" = some (.ref (ad.f 11)) ∧ PySem.W.keepIn K (.ref (ad.f 11)) = true ∧ Binds K (ad.d 11) ["one", "exponent"] [] ∧ Fun K "power_of" "power_of" (top 23) (ad.f 11) (ad.d 11)
  f12 : mg "whole_root" = some (.ref (ad.f 12)) ∧ PySem.W.keepIn K (.ref (ad.f 12)) = true ∧ Binds K (ad.d 12) ["number", "exponent"] [] ∧ Fun K "whole_root" "whole_root" (top 24) (ad.f 12) (ad.d 12)
  f13 : mg "root_below_of" = some (.ref (ad.f 13)) ∧ PySem.W.keepIn K (.ref (ad.f 13)) = true ∧ Binds K (ad.d 13) ["one", "exponent", "d"] [] ∧ Fun K "root_below_of" "root_below_of" (top 25) (ad.f 13) (ad.d 13)
  f14 : mg "check_roads" = some (.ref (ad.f 14)) ∧ PySem.W.keepIn K (.ref (ad.f 14)) = true ∧ Binds K (ad.d 14) ["roads"] [] ∧ Fun K "check_roads" "check_roads" (top 29) (ad.f 14) (ad.d 14)
  f15 : mg "check_walkers" = some (.ref (ad.f 15)) ∧ PySem.W.keepIn K (.ref (ad.f 15)) = true ∧ Binds K (ad.d 15) ["walkers"] [] ∧ Fun K "check_walkers" "check_walkers" (top 30) (ad.f 15) (ad.d 15)
  f16 : mg "check_asked" = some (.ref (ad.f 16)) ∧ PySem.W.keepIn K (.ref (ad.f 16)) = true ∧ Binds K (ad.d 16) ["asked"] [] ∧ Fun K "check_asked" "check_asked" (top 31) (ad.f 16) (ad.d 16)
  f17 : mg "check_numbers" = some (.ref (ad.f 17)) ∧ PySem.W.keepIn K (.ref (ad.f 17)) = true ∧ Binds K (ad.d 17) ["roads", "walkers", "asked"] [] ∧ Fun K "check_numbers" "check_numbers" (top 32) (ad.f 17) (ad.d 17)
  f18 : mg "check_team" = some (.ref (ad.f 18)) ∧ PySem.W.keepIn K (.ref (ad.f 18)) = true ∧ Binds K (ad.d 18) ["roads", "walkers", "asked"] [] ∧ Fun K "check_team" "check_team" (top 33) (ad.f 18) (ad.d 18)
  f19 : mg "check_bottom" = some (.ref (ad.f 19)) ∧ PySem.W.keepIn K (.ref (ad.f 19)) = true ∧ Binds K (ad.d 19) ["bottom"] [] ∧ Fun K "check_bottom" "check_bottom" (top 34) (ad.f 19) (ad.d 19)
  f20 : mg "power_by" = some (.ref (ad.f 20)) ∧ PySem.W.keepIn K (.ref (ad.f 20)) = true ∧ Binds K (ad.d 20) ["whole", "walkers"] [] ∧ Fun K "power_by" "power_by" (top 35) (ad.f 20) (ad.d 20)
  f21 : mg "bound_between" = some (.ref (ad.f 21)) ∧ PySem.W.keepIn K (.ref (ad.f 21)) = true ∧ Binds K (ad.d 21) ["roads", "walkers", "asked", "bottom"] [] ∧ Fun K "bound_between" "bound_between" (top 36) (ad.f 21) (ad.d 21)
  f22 : mg "ratio_of_base" = some (.ref (ad.f 22)) ∧ PySem.W.keepIn K (.ref (ad.f 22)) = true ∧ Binds K (ad.d 22) ["whole", "walkers", "base"] [] ∧ Fun K "ratio_of_base" "ratio_of_base" (top 37) (ad.f 22) (ad.d 22)
  f23 : mg "base_ratio" = some (.ref (ad.f 23)) ∧ PySem.W.keepIn K (.ref (ad.f 23)) = true ∧ Binds K (ad.d 23) ["roads", "walkers", "asked", "base"] [] ∧ Fun K "base_ratio" "base_ratio" (top 38) (ad.f 23) (ad.d 23)
  f24 : mg "best_over" = some (.ref (ad.f 24)) ∧ PySem.W.keepIn K (.ref (ad.f 24)) = true ∧ Binds K (ad.d 24) ["roads", "walkers", "asked", "bottom"] [] ∧ Fun K "best_over" "best_over" (top 39) (ad.f 24) (ad.d 24)
  f25 : mg "_law_box" = some (.ref (ad.f 25)) ∧ PySem.W.keepIn K (.ref (ad.f 25)) = true ∧ Binds K (ad.d 25) ["great"] [] ∧ Fun K "_law_box" "_law_box" (top 41) (ad.f 25) (ad.d 25)
  f26 : mg "_law_take" = some (.ref (ad.f 26)) ∧ PySem.W.keepIn K (.ref (ad.f 26)) = true ∧ Binds K (ad.d 26) ["box", "many"] [] ∧ Fun K "_law_take" "_law_take" (top 42) (ad.f 26) (ad.d 26)
  f27 : mg "_law_pick" = some (.ref (ad.f 27)) ∧ PySem.W.keepIn K (.ref (ad.f 27)) = true ∧ Binds K (ad.d 27) ["box", "some"] [] ∧ Fun K "_law_pick" "_law_pick" (top 43) (ad.f 27) (ad.d 27)
  f28 : mg "_law_cell" = some (.ref (ad.f 28)) ∧ PySem.W.keepIn K (.ref (ad.f 28)) = true ∧ Binds K (ad.d 28) ["script", "k"] [] ∧ Fun K "_law_cell" "_law_cell" (top 44) (ad.f 28) (ad.d 28)
  f29 : mg "_law_low" = some (.ref (ad.f 29)) ∧ PySem.W.keepIn K (.ref (ad.f 29)) = true ∧ Binds K (ad.d 29) ["top", "bottom"] [] ∧ Fun K "_law_low" "_law_low" (top 45) (ad.f 29) (ad.d 29)
  f30 : mg "_law_plus" = some (.ref (ad.f 30)) ∧ PySem.W.keepIn K (.ref (ad.f 30)) = true ∧ Binds K (ad.d 30) ["one", "other"] [] ∧ Fun K "_law_plus" "_law_plus" (top 46) (ad.f 30) (ad.d 30)
  f31 : mg "_law_minus" = some (.ref (ad.f 31)) ∧ PySem.W.keepIn K (.ref (ad.f 31)) = true ∧ Binds K (ad.d 31) ["one", "other"] [] ∧ Fun K "_law_minus" "_law_minus" (top 47) (ad.f 31) (ad.d 31)
  f32 : mg "_law_times" = some (.ref (ad.f 32)) ∧ PySem.W.keepIn K (.ref (ad.f 32)) = true ∧ Binds K (ad.d 32) ["one", "other"] [] ∧ Fun K "_law_times" "_law_times" (top 48) (ad.f 32) (ad.d 32)
  f33 : mg "_law_over" = some (.ref (ad.f 33)) ∧ PySem.W.keepIn K (.ref (ad.f 33)) = true ∧ Binds K (ad.d 33) ["one", "other"] [] ∧ Fun K "_law_over" "_law_over" (top 49) (ad.f 33) (ad.d 33)
  f34 : mg "_law_less" = some (.ref (ad.f 34)) ∧ PySem.W.keepIn K (.ref (ad.f 34)) = true ∧ Binds K (ad.d 34) ["one", "other"] [] ∧ Fun K "_law_less" "_law_less" (top 50) (ad.f 34) (ad.d 34)
  f35 : mg "_law_power" = some (.ref (ad.f 35)) ∧ PySem.W.keepIn K (.ref (ad.f 35)) = true ∧ Binds K (ad.d 35) ["one", "many"] [] ∧ Fun K "_law_power" "_law_power" (top 51) (ad.f 35) (ad.d 35)
  f36 : mg "_law_same" = some (.ref (ad.f 36)) ∧ PySem.W.keepIn K (.ref (ad.f 36)) = true ∧ Binds K (ad.d 36) ["told", "due"] [] ∧ Fun K "_law_same" "_law_same" (top 52) (ad.f 36) (ad.d 36)
  f37 : mg "_law_blamed" = some (.ref (ad.f 37)) ∧ PySem.W.keepIn K (.ref (ad.f 37)) = true ∧ Binds K (ad.d 37) ["told", "word", "value"] [] ∧ Fun K "_law_blamed" "_law_blamed" (top 53) (ad.f 37) (ad.d 37)
  f38 : mg "_law_whole" = some (.ref (ad.f 38)) ∧ PySem.W.keepIn K (.ref (ad.f 38)) = true ∧ Binds K (ad.d 38) ["value"] [] ∧ Fun K "_law_whole" "_law_whole" (top 54) (ad.f 38) (ad.d 38)
  f39 : mg "_law_is_fraction" = some (.ref (ad.f 39)) ∧ PySem.W.keepIn K (.ref (ad.f 39)) = true ∧ Binds K (ad.d 39) ["value"] [] ∧ Fun K "_law_is_fraction" "_law_is_fraction" (top 55) (ad.f 39) (ad.d 39)
  f40 : mg "_law_distance" = some (.ref (ad.f 40)) ∧ PySem.W.keepIn K (.ref (ad.f 40)) = true ∧ Binds K (ad.d 40) ["box"] [] ∧ Fun K "_law_distance" "_law_distance" (top 56) (ad.f 40) (ad.d 40)
  f41 : mg "_law_raised" = some (.ref (ad.f 41)) ∧ PySem.W.keepIn K (.ref (ad.f 41)) = true ∧ Binds K (ad.d 41) ["one", "many"] [] ∧ Fun K "_law_raised" "_law_raised" (top 57) (ad.f 41) (ad.d 41)
  f42 : mg "_law_keeps" = some (.ref (ad.f 42)) ∧ PySem.W.keepIn K (.ref (ad.f 42)) = true ∧ Binds K (ad.d 42) ["roads", "walkers", "asked", "ratio"] [] ∧ Fun K "_law_keeps" "_law_keeps" (top 58) (ad.f 42) (ad.d 42)
  f43 : mg "_law_bound" = some (.ref (ad.f 43)) ∧ PySem.W.keepIn K (.ref (ad.f 43)) = true ∧ Binds K (ad.d 43) ["roads", "walkers", "asked"] [] ∧ Fun K "_law_bound" "_law_bound" (top 59) (ad.f 43) (ad.d 43)
  f44 : mg "_law_near" = some (.ref (ad.f 44)) ∧ PySem.W.keepIn K (.ref (ad.f 44)) = true ∧ Binds K (ad.d 44) ["roads", "walkers", "asked", "bottom"] [] ∧ Fun K "_law_near" "_law_near" (top 60) (ad.f 44) (ad.d 44)
  f45 : mg "_law_called" = some (.ref (ad.f 45)) ∧ PySem.W.keepIn K (.ref (ad.f 45)) = true ∧ Binds K (ad.d 45) ["which", "args", "named"] [] ∧ Fun K "_law_called" "_law_called" (top 61) (ad.f 45) (ad.d 45)
  f46 : mg "_law_refused" = some (.ref (ad.f 46)) ∧ PySem.W.keepIn K (.ref (ad.f 46)) = true ∧ Binds K (ad.d 46) ["box", "named"] [] ∧ Fun K "_law_refused" "_law_refused" (top 62) (ad.f 46) (ad.d 46)
  f47 : mg "_law_ratio_by" = some (.ref (ad.f 47)) ∧ PySem.W.keepIn K (.ref (ad.f 47)) = true ∧ Binds K (ad.d 47) ["roads", "walkers", "asked", "base"] [] ∧ Fun K "_law_ratio_by" "_law_ratio_by" (top 63) (ad.f 47) (ad.d 47)
  f48 : mg "_law_is_best" = some (.ref (ad.f 48)) ∧ PySem.W.keepIn K (.ref (ad.f 48)) = true ∧ Binds K (ad.d 48) ["roads", "walkers", "asked", "bottom", "value"] [] ∧ Fun K "_law_is_best" "_law_is_best" (top 64) (ad.f 48) (ad.d 48)
  f49 : mg "law" = some (.ref (ad.f 49)) ∧ PySem.W.keepIn K (.ref (ad.f 49)) = true ∧ Binds K (ad.d 49) ["script"] [] ∧ Fun K "law" "law" (top 65) (ad.f 49) (ad.d 49)
structure Gs (w : World) (K : PySem.W.Frag) (mg : Str → Option Value) (base : Heap) (ad : Ad) : Prop where
  n_abs : mg "abs" = none
  n_bool : mg "bool" = none
  n_dict : mg "dict" = none
  n_int : mg "int" = none
  n_isinstance : mg "isinstance" = none
  n_len : mg "len" = none
  n_list : mg "list" = none
  n_min : mg "min" = none
  n_range : mg "range" = none
  n_str : mg "str" = none
  n_sum : mg "sum" = none
  n_tuple : mg "tuple" = none
  i_gcd : mg "gcd" = some (.builtin "math.gcd")
  k_WHOLE : KC K mg "WHOLE" k_WHOLE
  k_MOST_TEAM : KC K mg "MOST_TEAM" k_MOST_TEAM
  k_TWICE : KC K mg "TWICE" k_TWICE
  kb0 : KB K (ad.d 24) ["roads", "walkers", "asked", "bottom"] ["bottom", "asked", "walkers", "roads"] [3, 2, 1, 0]
  kb1 : KB K (ad.d 23) ["roads", "walkers", "asked", "base"] ["base", "asked", "walkers", "roads"] [3, 2, 1, 0]
  kb2 : KB K (ad.d 21) ["roads", "walkers", "asked", "bottom"] ["bottom", "asked", "walkers", "roads"] [3, 2, 1, 0]
  x_InvalidAsked : XCls P w K mg base (cxl ad) "InvalidAsked" "given" (ad.c 0) (ad.ci 0) (ad.cd 0)
  xf_InvalidAsked : XfC K (ad.c 0)
  x_InvalidBase : XCls P w K mg base (cxl ad) "InvalidBase" "given" (ad.c 1) (ad.ci 1) (ad.cd 1)
  xf_InvalidBase : XfC K (ad.c 1)
  x_InvalidNumber : XCls P w K mg base (cxl ad) "InvalidNumber" "given" (ad.c 2) (ad.ci 2) (ad.cd 2)
  xf_InvalidNumber : XfC K (ad.c 2)
  x_InvalidRoads : XCls P w K mg base (cxl ad) "InvalidRoads" "given" (ad.c 3) (ad.ci 3) (ad.cd 3)
  xf_InvalidRoads : XfC K (ad.c 3)
  x_InvalidWalkers : XCls P w K mg base (cxl ad) "InvalidWalkers" "given" (ad.c 4) (ad.ci 4) (ad.cd 4)
  xf_InvalidWalkers : XfC K (ad.c 4)
  hex_InvalidAsked : ∀ c' C', cxl ad c' = some C' → PySem.W.exmOne K (.ref C') (.ref (ad.c 0)) = some (hit "InvalidAsked" c')
  hex_InvalidBase : ∀ c' C', cxl ad c' = some C' → PySem.W.exmOne K (.ref C') (.ref (ad.c 1)) = some (hit "InvalidBase" c')
  hex_InvalidNumber : ∀ c' C', cxl ad c' = some C' → PySem.W.exmOne K (.ref C') (.ref (ad.c 2)) = some (hit "InvalidNumber" c')
  hex_InvalidRoads : ∀ c' C', cxl ad c' = some C' → PySem.W.exmOne K (.ref C') (.ref (ad.c 3)) = some (hit "InvalidRoads" c')
  hex_InvalidWalkers : ∀ c' C', cxl ad c' = some C' → PySem.W.exmOne K (.ref C') (.ref (ad.c 4)) = some (hit "InvalidWalkers" c')
section
variable {w : World} {K : PySem.W.Frag} {mg : Str → Option Value} {base : Heap} {ad : Ad} {n fu : Nat} {C : CallT}
theorem sc0 : FnScope ["value"] ["value"] (defScope (top 9)) := ⟨rfl, rfl, rfl, by decide +kernel, rfl, by decide +kernel, by decide +kernel⟩
theorem d0 (G : Gs w K mg base ad) (F : Fs w K mg base ad (n + 2) C) (S : Fun K "is_integer" "is_integer" (top 9) (ad.f 0) (ad.d 0)) : FnOk P w K mg base (L2.CX P w) (n + 3) (ad.f 0) (ad.d 0) ["value"] (spI K (cxl ad) 1 (runB C (fd0 fu))) :=
  body_ok (k := n + 2) (fd0 fu) S sc0 rfl (by decide) fun cdv A outer s0 H E hr =>
    (sx_cons (sx_ret (px_and (px_isi (px_var 0) (pe_tyName G.n_int) G.n_isinstance) (px_one (px_not (px_isi (px_var 0) (pe_tyName G.n_bool) G.n_isinstance)))))
    sx_nil)
theorem sc1 : FnScope ["value", "least", "most"] ["value", "least", "most"] (defScope (top 10)) := ⟨rfl, rfl, rfl, by decide +kernel, rfl, by decide +kernel, by decide +kernel⟩
theorem d1 (G : Gs w K mg base ad) (F : Fs w K mg base ad (n + 2) C) (S : Fun K "is_between" "is_between" (top 10) (ad.f 1) (ad.d 1)) : FnOk P w K mg base (L2.CX P w) (n + 3) (ad.f 1) (ad.d 1) ["value", "least", "most"] (spI K (cxl ad) 3 (runB C (fd1 fu))) :=
  body_ok (k := n + 2) (fd1 fu) S sc1 rfl (by decide) fun cdv A outer s0 H E hr =>
    (sx_cons (sx_ret (px_and (px_call F.f0 hr (takes_of rfl rfl rfl rfl) (pxa_cons (px_var 0) pxa_nil)) (px_one (px_chain op_le s_le op_le s_le (px_var 1) (px_var 0) (px_var 2)))))
    sx_nil)
theorem sc2 : FnScope ["value", "many"] ["value", "many"] (defScope (top 11)) := ⟨rfl, rfl, rfl, by decide +kernel, rfl, by decide +kernel, by decide +kernel⟩
theorem d2 (G : Gs w K mg base ad) (F : Fs w K mg base ad (n + 2) C) (S : Fun K "is_tuple_of" "is_tuple_of" (top 11) (ad.f 2) (ad.d 2)) : FnOk P w K mg base (L2.CX P w) (n + 3) (ad.f 2) (ad.d 2) ["value", "many"] (spI K (cxl ad) 2 (runB C (fd2 fu))) :=
  body_ok (k := n + 2) (fd2 fu) S sc2 rfl (by decide) fun cdv A outer s0 H E hr =>
    (sx_cons (sx_ret (px_and (px_isi (px_var 0) (pe_tyName G.n_tuple) G.n_isinstance) (px_one (px_cmp (o_eq hr) s_eq (px_callB o_len c_len G.n_len (pxa_cons (px_var 0) pxa_nil)) (px_var 1) rfl))))
    sx_nil)
theorem sc3 : FnScope ["n", "d", "shared"] ["n", "d"] (defScope (top 14)) := ⟨rfl, rfl, rfl, by decide +kernel, rfl, by decide +kernel, by decide +kernel⟩
theorem d3 (G : Gs w K mg base ad) (F : Fs w K mg base ad (n + 2) C) (S : Fun K "fraction_of" "fraction_of" (top 14) (ad.f 3) (ad.d 3)) : FnOk P w K mg base (L2.CX P w) (n + 3) (ad.f 3) (ad.d 3) ["n", "d"] (spI K (cxl ad) 2 (runB C (fd3 fu))) :=
  body_ok (k := n + 2) (fd3 fu) S sc3 rfl (by decide) fun cdv A outer s0 H E hr =>
    (sx_cons (sx_set 2 sc3.nd (px_ifExp (pxt_cmp op_gt s_gt (px_var 1) px_int rfl) (px_callBf cr_gcd c_gcd G.i_gcd (pxa_cons (px_var 0) (pxa_cons (px_var 1) pxa_nil))) (px_un un_neg s_neg (px_callBf cr_gcd c_gcd G.i_gcd (pxa_cons (px_var 0) (pxa_cons (px_var 1) pxa_nil))))))
    (sx_cons (sx_ret (px_tup (pxa_cons (px_op op_fdivW s_div (px_var 0) (px_var 2)) (pxa_cons (px_op op_fdivW s_div (px_var 1) (px_var 2)) pxa_nil))))
    sx_nil))
theorem sc4 : FnScope ["value"] ["value"] (defScope (top 15)) := ⟨rfl, rfl, rfl, by decide +kernel, rfl, by decide +kernel, by decide +kernel⟩
theorem d4 (G : Gs w K mg base ad) (F : Fs w K mg base ad (n + 2) C) (S : Fun K "is_fraction" "is_fraction" (top 15) (ad.f 4) (ad.d 4)) : FnOk P w K mg base (L2.CX P w) (n + 3) (ad.f 4) (ad.d 4) ["value"] (spI K (cxl ad) 1 (runB C (fd4 fu))) :=
  body_ok (k := n + 2) (fd4 fu) S sc4 rfl (by decide) fun cdv A outer s0 H E hr =>
    (sx_cons (sx_if (pxt_w (pxw_or (pxt_not (pxt_val (px_call F.f2 hr (takes_of rfl rfl rfl rfl) (pxa_cons (px_var 0) (pxa_cons px_int pxa_nil))))) (pxw_or (pxt_not (pxt_val (px_call F.f0 hr (takes_of rfl rfl rfl rfl) (pxa_cons (px_ix (o_ix hr) s_ix (px_var 0) px_int) pxa_nil)))) (pxw_one (pxt_not (pxt_val (px_call F.f0 hr (takes_of rfl rfl rfl rfl) (pxa_cons (px_ix (o_ix hr) s_ix (px_var 0) px_int) pxa_nil)))))))) (sx_cons (sx_ret px_bl)
    sx_nil) sx_nil)
    (sx_cons (sx_ret (px_and (px_cmp op_gt s_gt (px_ix (o_ix hr) s_ix (px_var 0) px_int) px_int rfl) (px_one (px_cmp (o_eq hr) s_eq (px_callBf cr_gcd c_gcd G.i_gcd (pxa_cons (px_ix (o_ix hr) s_ix (px_var 0) px_int) (pxa_cons (px_ix (o_ix hr) s_ix (px_var 0) px_int) pxa_nil))) px_int rfl))))
    sx_nil))
theorem sc5 : FnScope ["one", "other"] ["one", "other"] (defScope (top 16)) := ⟨rfl, rfl, rfl, by decide +kernel, rfl, by decide +kernel, by decide +kernel⟩
theorem d5 (G : Gs w K mg base ad) (F : Fs w K mg base ad (n + 2) C) (S : Fun K "sum_of" "sum_of" (top 16) (ad.f 5) (ad.d 5)) : FnOk P w K mg base (L2.CX P w) (n + 3) (ad.f 5) (ad.d 5) ["one", "other"] (spI K (cxl ad) 2 (runB C (fd5 fu))) :=
  body_ok (k := n + 2) (fd5 fu) S sc5 rfl (by decide) fun cdv A outer s0 H E hr =>
    (sx_cons (sx_ret (px_call F.f3 hr (takes_of rfl rfl rfl rfl) (pxa_cons (px_op o_add s_add (px_op op_mulW s_mul (px_ix (o_ix hr) s_ix (px_var 0) px_int) (px_ix (o_ix hr) s_ix (px_var 1) px_int)) (px_op op_mulW s_mul (px_ix (o_ix hr) s_ix (px_var 1) px_int) (px_ix (o_ix hr) s_ix (px_var 0) px_int))) (pxa_cons (px_op op_mulW s_mul (px_ix (o_ix hr) s_ix (px_var 0) px_int) (px_ix (o_ix hr) s_ix (px_var 1) px_int)) pxa_nil))))
    sx_nil)
theorem sc6 : FnScope ["one", "other"] ["one", "other"] (defScope (top 17)) := ⟨rfl, rfl, rfl, by decide +kernel, rfl, by decide +kernel, by decide +kernel⟩
theorem d6 (G : Gs w K mg base ad) (F : Fs w K mg base ad (n + 2) C) (S : Fun K "difference_of" "difference_of" (top 17) (ad.f 6) (ad.d 6)) : FnOk P w K mg base (L2.CX P w) (n + 3) (ad.f 6) (ad.d 6) ["one", "other"] (spI K (cxl ad) 2 (runB C (fd6 fu))) :=
  body_ok (k := n + 2) (fd6 fu) S sc6 rfl (by decide) fun cdv A outer s0 H E hr =>
    (sx_cons (sx_ret (px_call F.f3 hr (takes_of rfl rfl rfl rfl) (pxa_cons (px_op op_sub s_sub (px_op op_mulW s_mul (px_ix (o_ix hr) s_ix (px_var 0) px_int) (px_ix (o_ix hr) s_ix (px_var 1) px_int)) (px_op op_mulW s_mul (px_ix (o_ix hr) s_ix (px_var 1) px_int) (px_ix (o_ix hr) s_ix (px_var 0) px_int))) (pxa_cons (px_op op_mulW s_mul (px_ix (o_ix hr) s_ix (px_var 0) px_int) (px_ix (o_ix hr) s_ix (px_var 1) px_int)) pxa_nil))))
    sx_nil)
theorem sc7 : FnScope ["one", "other"] ["one", "other"] (defScope (top 18)) := ⟨rfl, rfl, rfl, by decide +kernel, rfl, by decide +kernel, by decide +kernel⟩
theorem d7 (G : Gs w K mg base ad) (F : Fs w K mg base ad (n + 2) C) (S : Fun K "times_of" "times_of" (top 18) (ad.f 7) (ad.d 7)) : FnOk P w K mg base (L2.CX P w) (n + 3) (ad.f 7) (ad.d 7) ["one", "other"] (spI K (cxl ad) 2 (runB C (fd7 fu))) :=
  body_ok (k := n + 2) (fd7 fu) S sc7 rfl (by decide) fun cdv A outer s0 H E hr =>
    (sx_cons (sx_ret (px_call F.f3 hr (takes_of rfl rfl rfl rfl) (pxa_cons (px_op op_mulW s_mul (px_ix (o_ix hr) s_ix (px_var 0) px_int) (px_ix (o_ix hr) s_ix (px_var 1) px_int)) (pxa_cons (px_op op_mulW s_mul (px_ix (o_ix hr) s_ix (px_var 0) px_int) (px_ix (o_ix hr) s_ix (px_var 1) px_int)) pxa_nil))))
    sx_nil)
theorem sc8 : FnScope ["one", "other"] ["one", "other"] (defScope (top 19)) := ⟨rfl, rfl, rfl, by decide +kernel, rfl, by decide +kernel, by decide +kernel⟩
theorem d8 (G : Gs w K mg base ad) (F : Fs w K mg base ad (n + 2) C) (S : Fun K "over_of" "over_of" (top 19) (ad.f 8) (ad.d 8)) : FnOk P w K mg base (L2.CX P w) (n + 3) (ad.f 8) (ad.d 8) ["one", "other"] (spI K (cxl ad) 2 (runB C (fd8 fu))) :=
  body_ok (k := n + 2) (fd8 fu) S sc8 rfl (by decide) fun cdv A outer s0 H E hr =>
    (sx_cons (sx_ret (px_call F.f3 hr (takes_of rfl rfl rfl rfl) (pxa_cons (px_op op_mulW s_mul (px_ix (o_ix hr) s_ix (px_var 0) px_int) (px_ix (o_ix hr) s_ix (px_var 1) px_int)) (pxa_cons (px_op op_mulW s_mul (px_ix (o_ix hr) s_ix (px_var 0) px_int) (px_ix (o_ix hr) s_ix (px_var 1) px_int)) pxa_nil))))
    sx_nil)
theorem sc9 : FnScope ["one", "other", "left", "right"] ["one", "other"] (defScope (top 20)) := ⟨rfl, rfl, rfl, by decide +kernel, rfl, by decide +kernel, by decide +kernel⟩
theorem d9 (G : Gs w K mg base ad) (F : Fs w K mg base ad (n + 2) C) (S : Fun K "order_of" "order_of" (top 20) (ad.f 9) (ad.d 9)) : FnOk P w K mg base (L2.CX P w) (n + 3) (ad.f 9) (ad.d 9) ["one", "other"] (spI K (cxl ad) 2 (runB C (fd9 fu))) :=
  body_ok (k := n + 2) (fd9 fu) S sc9 rfl (by decide) fun cdv A outer s0 H E hr =>
    (sx_cons (sx_par 2 3 rfl sc9.nd (pxa_cons (px_op op_mulW s_mul (px_ix (o_ix hr) s_ix (px_var 0) px_int) (px_ix (o_ix hr) s_ix (px_var 1) px_int)) (pxa_cons (px_op op_mulW s_mul (px_ix (o_ix hr) s_ix (px_var 1) px_int) (px_ix (o_ix hr) s_ix (px_var 0) px_int)) pxa_nil)))
    (sx_cons (sx_ret (px_op op_sub s_sub (px_callTy call_int1 c_int G.n_int (pxa_cons (px_cmp op_gt s_gt (px_var 2) (px_var 3) rfl) pxa_nil)) (px_callTy call_int1 c_int G.n_int (pxa_cons (px_cmp op_lt s_lt (px_var 2) (px_var 3) rfl) pxa_nil))))
    sx_nil))
theorem sc10 : FnScope ["number", "exponent", "found", "square", "left"] ["number", "exponent"] (defScope (top 22)) := ⟨rfl, rfl, rfl, by decide +kernel, rfl, by decide +kernel, by decide +kernel⟩
theorem d10 (G : Gs w K mg base ad) (F : Fs w K mg base ad (n + 2) C) (S : Fun K "whole_power" "whole_power" (top 22) (ad.f 10) (ad.d 10)) : FnOk P w K mg base (L2.CX P w) (n + 3) (ad.f 10) (ad.d 10) ["number", "exponent"] (spI K (cxl ad) 2 (runB C (fd10 fu))) :=
  body_ok (k := n + 2) (fd10 fu) S sc10 rfl (by decide) fun cdv A outer s0 H E hr =>
    (sx_cons (sx_par3 2 3 4 rfl sc10.nd (pxa_cons px_int (pxa_cons (px_var 0) (pxa_cons (px_var 1) pxa_nil))))
    (sx_cons (sx_while PassesOwn.leaving (pxt_cmp op_gt s_gt (px_var 4) px_int rfl) (sx_cons (sx_set 2 sc10.nd (px_ifExp (pxt_cmp (o_eq hr) s_eq (px_op op_mod s_mod (px_var 4) px_int) px_int rfl) (px_op op_mulW s_mul (px_var 2) (px_var 3)) (px_var 2)))
    (sx_cons (sx_set 4 sc10.nd (px_op op_fdivW s_div (px_var 4) px_int))
    (sx_cons (sx_set 3 sc10.nd (px_ifExp (pxt_cmp op_gt s_gt (px_var 4) px_int rfl) (px_op op_mulW s_mul (px_var 3) (px_var 3)) (px_var 3)))
    sx_nil))))
    (sx_cons (sx_ret (px_var 2))
    sx_nil)))
theorem sc11 : FnScope ["one", "exponent"] ["one", "exponent"] (defScope (top 23)) := ⟨rfl, rfl, rfl, by decide +kernel, rfl, by decide +kernel, by decide +kernel⟩
theorem d11 (G : Gs w K mg base ad) (F : Fs w K mg base ad (n + 2) C) (S : Fun K "power_of" "power_of" (top 23) (ad.f 11) (ad.d 11)) : FnOk P w K mg base (L2.CX P w) (n + 3) (ad.f 11) (ad.d 11) ["one", "exponent"] (spI K (cxl ad) 2 (runB C (fd11 fu))) :=
  body_ok (k := n + 2) (fd11 fu) S sc11 rfl (by decide) fun cdv A outer s0 H E hr =>
    (sx_cons (sx_ret (px_tup (pxa_cons (px_call F.f10 hr (takes_of rfl rfl rfl rfl) (pxa_cons (px_ix (o_ix hr) s_ix (px_var 0) px_int) (pxa_cons (px_var 1) pxa_nil))) (pxa_cons (px_call F.f10 hr (takes_of rfl rfl rfl rfl) (pxa_cons (px_ix (o_ix hr) s_ix (px_var 0) px_int) (pxa_cons (px_var 1) pxa_nil))) pxa_nil))))
    sx_nil)
theorem sc12 : FnScope ["number", "exponent", "low", "high", "middle"] ["number", "exponent"] (defScope (top 24)) := ⟨rfl, rfl, rfl, by decide +kernel, rfl, by decide +kernel, by decide +kernel⟩
theorem d12 (G : Gs w K mg base ad) (F : Fs w K mg base ad (n + 2) C) (S : Fun K "whole_root" "whole_root" (top 24) (ad.f 12) (ad.d 12)) : FnOk P w K mg base (L2.CX P w) (n + 3) (ad.f 12) (ad.d 12) ["number", "exponent"] (spI K (cxl ad) 2 (runB C (fd12 fu))) :=
  body_ok (k := n + 2) (fd12 fu) S sc12 rfl (by decide) fun cdv A outer s0 H E hr =>
    (sx_cons (sx_asg (px_tup (pxa_cons px_int (pxa_cons px_int pxa_nil))) (gx_tup rfl (gxs_cons (gx_name 2 sc12.nd) (gxs_cons (gx_name 3 sc12.nd) gxs_nil))))
    (sx_cons (sx_while PassesOwn.leaving (pxt_cmp op_le s_le (px_call F.f10 hr (takes_of rfl rfl rfl rfl) (pxa_cons (px_var 3) (pxa_cons (px_var 1) pxa_nil))) (px_var 0) rfl) (sx_cons (sx_par 2 3 rfl sc12.nd (pxa_cons (px_var 3) (pxa_cons (px_op op_mulW s_mul px_int (px_var 3)) pxa_nil)))
    sx_nil))
    (sx_cons (sx_while PassesOwn.leaving (pxt_cmp op_gt s_gt (px_op op_sub s_sub (px_var 3) (px_var 2)) px_int rfl) (sx_cons (sx_set 4 sc12.nd (px_op op_fdivW s_div (px_op o_add s_add (px_var 2) (px_var 3)) px_int))
    (sx_cons (sx_if (pxt_cmp op_le s_le (px_call F.f10 hr (takes_of rfl rfl rfl rfl) (pxa_cons (px_var 4) (pxa_cons (px_var 1) pxa_nil))) (px_var 0) rfl) (sx_cons (sx_set 2 sc12.nd (px_var 4))
    sx_nil) (sx_cons (sx_set 3 sc12.nd (px_var 4))
    sx_nil))
    sx_nil)))
    (sx_cons (sx_ret (px_var 2))
    sx_nil))))
theorem sc13 : FnScope ["one", "exponent", "d"] ["one", "exponent", "d"] (defScope (top 25)) := ⟨rfl, rfl, rfl, by decide +kernel, rfl, by decide +kernel, by decide +kernel⟩
theorem d13 (G : Gs w K mg base ad) (F : Fs w K mg base ad (n + 2) C) (S : Fun K "root_below_of" "root_below_of" (top 25) (ad.f 13) (ad.d 13)) : FnOk P w K mg base (L2.CX P w) (n + 3) (ad.f 13) (ad.d 13) ["one", "exponent", "d"] (spI K (cxl ad) 3 (runB C (fd13 fu))) :=
  body_ok (k := n + 2) (fd13 fu) S sc13 rfl (by decide) fun cdv A outer s0 H E hr =>
    (sx_cons (sx_ret (px_call F.f3 hr (takes_of rfl rfl rfl rfl) (pxa_cons (px_call F.f12 hr (takes_of rfl rfl rfl rfl) (pxa_cons (px_op op_fdivW s_div (px_op op_mulW s_mul (px_ix (o_ix hr) s_ix (px_var 0) px_int) (px_call F.f10 hr (takes_of rfl rfl rfl rfl) (pxa_cons (px_var 2) (pxa_cons (px_var 1) pxa_nil)))) (px_ix (o_ix hr) s_ix (px_var 0) px_int)) (pxa_cons (px_var 1) pxa_nil))) (pxa_cons (px_var 2) pxa_nil))))
    sx_nil)
theorem sc14 : FnScope ["roads"] ["roads"] (defScope (top 29)) := ⟨rfl, rfl, rfl, by decide +kernel, rfl, by decide +kernel, by decide +kernel⟩
theorem d14 (G : Gs w K mg base ad) (F : Fs w K mg base ad (n + 2) C) (S : Fun K "check_roads" "check_roads" (top 29) (ad.f 14) (ad.d 14)) : FnOk P w K mg base (L2.CX P w) (n + 3) (ad.f 14) (ad.d 14) ["roads"] (spI K (cxl ad) 1 (runB C (fd14 fu))) :=
  body_ok (k := n + 2) (fd14 fu) S sc14 rfl (by decide) fun cdv A outer s0 H E hr =>
    (sx_cons (sx_if (pxt_not (pxt_val (px_call F.f1 hr (takes_of rfl rfl rfl rfl) (pxa_cons (px_var 0) (pxa_cons px_int (pxa_cons (px_kc G.k_MOST_TEAM) pxa_nil)))))) (sx_cons (sx_raise1 rfl G.x_InvalidRoads (hr.mono (Nat.le_add_left _ _)) (takes_of rfl rfl rfl rfl) (px_var 0))
    sx_nil) sx_nil)
    sx_nil)
theorem sc15 : FnScope ["walkers"] ["walkers"] (defScope (top 30)) := ⟨rfl, rfl, rfl, by decide +kernel, rfl, by decide +kernel, by decide +kernel⟩
theorem d15 (G : Gs w K mg base ad) (F : Fs w K mg base ad (n + 2) C) (S : Fun K "check_walkers" "check_walkers" (top 30) (ad.f 15) (ad.d 15)) : FnOk P w K mg base (L2.CX P w) (n + 3) (ad.f 15) (ad.d 15) ["walkers"] (spI K (cxl ad) 1 (runB C (fd15 fu))) :=
  body_ok (k := n + 2) (fd15 fu) S sc15 rfl (by decide) fun cdv A outer s0 H E hr =>
    (sx_cons (sx_if (pxt_not (pxt_val (px_call F.f1 hr (takes_of rfl rfl rfl rfl) (pxa_cons (px_var 0) (pxa_cons px_int (pxa_cons (px_kc G.k_MOST_TEAM) pxa_nil)))))) (sx_cons (sx_raise1 rfl G.x_InvalidWalkers (hr.mono (Nat.le_add_left _ _)) (takes_of rfl rfl rfl rfl) (px_var 0))
    sx_nil) sx_nil)
    sx_nil)
theorem sc16 : FnScope ["asked"] ["asked"] (defScope (top 31)) := ⟨rfl, rfl, rfl, by decide +kernel, rfl, by decide +kernel, by decide +kernel⟩
theorem d16 (G : Gs w K mg base ad) (F : Fs w K mg base ad (n + 2) C) (S : Fun K "check_asked" "check_asked" (top 31) (ad.f 16) (ad.d 16)) : FnOk P w K mg base (L2.CX P w) (n + 3) (ad.f 16) (ad.d 16) ["asked"] (spI K (cxl ad) 1 (runB C (fd16 fu))) :=
  body_ok (k := n + 2) (fd16 fu) S sc16 rfl (by decide) fun cdv A outer s0 H E hr =>
    (sx_cons (sx_if (pxt_not (pxt_val (px_call F.f1 hr (takes_of rfl rfl rfl rfl) (pxa_cons (px_var 0) (pxa_cons px_int (pxa_cons (px_kc G.k_MOST_TEAM) pxa_nil)))))) (sx_cons (sx_raise1 rfl G.x_InvalidAsked (hr.mono (Nat.le_add_left _ _)) (takes_of rfl rfl rfl rfl) (px_var 0))
    sx_nil) sx_nil)
    sx_nil)
theorem sc17 : FnScope ["roads", "walkers", "asked"] ["roads", "walkers", "asked"] (defScope (top 32)) := ⟨rfl, rfl, rfl, by decide +kernel, rfl, by decide +kernel, by decide +kernel⟩
theorem d17 (G : Gs w K mg base ad) (F : Fs w K mg base ad (n + 2) C) (S : Fun K "check_numbers" "check_numbers" (top 32) (ad.f 17) (ad.d 17)) : FnOk P w K mg base (L2.CX P w) (n + 3) (ad.f 17) (ad.d 17) ["roads", "walkers", "asked"] (spI K (cxl ad) 3 (runB C (fd17 fu))) :=
  body_ok (k := n + 2) (fd17 fu) S sc17 rfl (by decide) fun cdv A outer s0 H E hr =>
    (sx_cons (sx_expr (px_call F.f14 hr (takes_of rfl rfl rfl rfl) (pxa_cons (px_var 0) pxa_nil)))
    (sx_cons (sx_expr (px_call F.f15 hr (takes_of rfl rfl rfl rfl) (pxa_cons (px_var 1) pxa_nil)))
    (sx_cons (sx_expr (px_call F.f16 hr (takes_of rfl rfl rfl rfl) (pxa_cons (px_var 2) pxa_nil)))
    sx_nil)))
theorem sc18 : FnScope ["roads", "walkers", "asked"] ["roads", "walkers", "asked"] (defScope (top 33)) := ⟨rfl, rfl, rfl, by decide +kernel, rfl, by decide +kernel, by decide +kernel⟩
theorem d18 (G : Gs w K mg base ad) (F : Fs w K mg base ad (n + 2) C) (S : Fun K "check_team" "check_team" (top 33) (ad.f 18) (ad.d 18)) : FnOk P w K mg base (L2.CX P w) (n + 3) (ad.f 18) (ad.d 18) ["roads", "walkers", "asked"] (spI K (cxl ad) 3 (runB C (fd18 fu))) :=
  body_ok (k := n + 2) (fd18 fu) S sc18 rfl (by decide) fun cdv A outer s0 H E hr =>
    (sx_cons (sx_expr (px_call F.f17 hr (takes_of rfl rfl rfl rfl) (pxa_cons (px_var 0) (pxa_cons (px_var 1) (pxa_cons (px_var 2) pxa_nil)))))
    (sx_cons (sx_if (pxt_cmp op_gt s_gt (px_var 2) (px_var 1) rfl) (sx_cons (sx_raise1 rfl G.x_InvalidAsked (hr.mono (Nat.le_add_left _ _)) (takes_of rfl rfl rfl rfl) (px_var 2))
    sx_nil) sx_nil)
    sx_nil))
theorem sc19 : FnScope ["bottom"] ["bottom"] (defScope (top 34)) := ⟨rfl, rfl, rfl, by decide +kernel, rfl, by decide +kernel, by decide +kernel⟩
theorem d19 (G : Gs w K mg base ad) (F : Fs w K mg base ad (n + 2) C) (S : Fun K "check_bottom" "check_bottom" (top 34) (ad.f 19) (ad.d 19)) : FnOk P w K mg base (L2.CX P w) (n + 3) (ad.f 19) (ad.d 19) ["bottom"] (spI K (cxl ad) 1 (runB C (fd19 fu))) :=
  body_ok (k := n + 2) (fd19 fu) S sc19 rfl (by decide) fun cdv A outer s0 H E hr =>
    (sx_cons (sx_if (pxt_w (pxw_or (pxt_not (pxt_val (px_call F.f0 hr (takes_of rfl rfl rfl rfl) (pxa_cons (px_var 0) pxa_nil)))) (pxw_one (pxt_cmp op_lt s_lt (px_var 0) px_int rfl)))) (sx_cons (sx_raise1 rfl G.x_InvalidNumber (hr.mono (Nat.le_add_left _ _)) (takes_of rfl rfl rfl rfl) (px_var 0))
    sx_nil) sx_nil)
    sx_nil)
theorem sc20 : FnScope ["whole", "walkers", "rest", "below"] ["whole", "walkers"] (defScope (top 35)) := ⟨rfl, rfl, rfl, by decide +kernel, rfl, by decide +kernel, by decide +kernel⟩
theorem d20 (G : Gs w K mg base ad) (F : Fs w K mg base ad (n + 2) C) (S : Fun K "power_by" "power_by" (top 35) (ad.f 20) (ad.d 20)) : FnOk P w K mg base (L2.CX P w) (n + 3) (ad.f 20) (ad.d 20) ["whole", "walkers"] (spI K (cxl ad) 2 (runB C (fd20 fu))) :=
  body_ok (k := n + 2) (fd20 fu) S sc20 rfl (by decide) fun cdv A outer s0 H E hr =>
    (sx_cons (sx_set 2 sc20.nd (px_op op_sub s_sub (px_var 0) (px_var 1)))
    (sx_cons (sx_set 3 sc20.nd (px_call F.f7 hr (takes_of rfl rfl rfl rfl) (pxa_cons (px_call F.f11 hr (takes_of rfl rfl rfl rfl) (pxa_cons (px_tup (pxa_cons (px_var 1) (pxa_cons px_int pxa_nil))) (pxa_cons (px_var 1) pxa_nil))) (pxa_cons (px_call F.f11 hr (takes_of rfl rfl rfl rfl) (pxa_cons (px_tup (pxa_cons (px_var 2) (pxa_cons px_int pxa_nil))) (pxa_cons (px_var 2) pxa_nil))) pxa_nil))))
    (sx_cons (sx_ret (px_call F.f8 hr (takes_of rfl rfl rfl rfl) (pxa_cons (px_call F.f11 hr (takes_of rfl rfl rfl rfl) (pxa_cons (px_tup (pxa_cons (px_var 0) (pxa_cons px_int pxa_nil))) (pxa_cons (px_var 0) pxa_nil))) (pxa_cons (px_var 3) pxa_nil))))
    sx_nil)))
theorem sc21 : FnScope ["roads", "walkers", "asked", "bottom", "low", "root"] ["roads", "walkers", "asked", "bottom"] (defScope (top 36)) := ⟨rfl, rfl, rfl, by decide +kernel, rfl, by decide +kernel, by decide +kernel⟩
theorem d21 (G : Gs w K mg base ad) (F : Fs w K mg base ad (n + 2) C) (S : Fun K "bound_between" "bound_between" (top 36) (ad.f 21) (ad.d 21)) : FnOk P w K mg base (L2.CX P w) (n + 3) (ad.f 21) (ad.d 21) ["roads", "walkers", "asked", "bottom"] (spI K (cxl ad) 4 (runB C (fd21 fu))) :=
  body_ok (k := n + 2) (fd21 fu) S sc21 rfl (by decide) fun cdv A outer s0 H E hr =>
    (sx_cons (sx_expr (px_call F.f18 hr (takes_of rfl rfl rfl rfl) (pxa_cons (px_var 0) (pxa_cons (px_var 1) (pxa_cons (px_var 2) pxa_nil)))))
    (sx_cons (sx_expr (px_call F.f19 hr (takes_of rfl rfl rfl rfl) (pxa_cons (px_var 3) pxa_nil)))
    (sx_cons (sx_set 4 sc21.nd (px_kc G.k_WHOLE))
    (sx_cons (sx_if (pxt_cmp op_lt s_lt (px_var 1) (px_op op_mulW s_mul (px_var 0) (px_var 2)) rfl) (sx_cons (sx_set 5 sc21.nd (px_call F.f13 hr (takes_of rfl rfl rfl rfl) (pxa_cons (px_call F.f20 hr (takes_of rfl rfl rfl rfl) (pxa_cons (px_op op_mulW s_mul (px_var 0) (px_var 2)) (pxa_cons (px_var 1) pxa_nil))) (pxa_cons (px_var 1) (pxa_cons (px_op op_mulW s_mul px_int (px_var 3)) pxa_nil)))))
    (sx_cons (sx_set 4 sc21.nd (px_call F.f5 hr (takes_of rfl rfl rfl rfl) (pxa_cons (px_kc G.k_WHOLE) (pxa_cons (px_call F.f7 hr (takes_of rfl rfl rfl rfl) (pxa_cons (px_kc G.k_TWICE) (pxa_cons (px_var 5) pxa_nil))) pxa_nil))))
    sx_nil)) sx_nil)
    (sx_cons (sx_ret (px_tup (pxa_cons (px_var 4) (pxa_cons (px_call F.f5 hr (takes_of rfl rfl rfl rfl) (pxa_cons (px_var 4) (pxa_cons (px_tup (pxa_cons px_int (pxa_cons (px_var 3) pxa_nil))) pxa_nil))) pxa_nil))))
    sx_nil)))))
theorem sc22 : FnScope ["whole", "walkers", "base", "less"] ["whole", "walkers", "base"] (defScope (top 37)) := ⟨rfl, rfl, rfl, by decide +kernel, rfl, by decide +kernel, by decide +kernel⟩
theorem d22 (G : Gs w K mg base ad) (F : Fs w K mg base ad (n + 2) C) (S : Fun K "ratio_of_base" "ratio_of_base" (top 37) (ad.f 22) (ad.d 22)) : FnOk P w K mg base (L2.CX P w) (n + 3) (ad.f 22) (ad.d 22) ["whole", "walkers", "base"] (spI K (cxl ad) 3 (runB C (fd22 fu))) :=
  body_ok (k := n + 2) (fd22 fu) S sc22 rfl (by decide) fun cdv A outer s0 H E hr =>
    (sx_cons (sx_set 3 sc22.nd (px_call F.f6 hr (takes_of rfl rfl rfl rfl) (pxa_cons (px_call F.f11 hr (takes_of rfl rfl rfl rfl) (pxa_cons (px_var 2) (pxa_cons (px_var 1) pxa_nil))) (pxa_cons (px_kc G.k_WHOLE) pxa_nil))))
    (sx_cons (sx_ret (px_call F.f5 hr (takes_of rfl rfl rfl rfl) (pxa_cons (px_kc G.k_WHOLE) (pxa_cons (px_call F.f7 hr (takes_of rfl rfl rfl rfl) (pxa_cons (px_kc G.k_TWICE) (pxa_cons (px_call F.f8 hr (takes_of rfl rfl rfl rfl) (pxa_cons (px_call F.f11 hr (takes_of rfl rfl rfl rfl) (pxa_cons (px_var 2) (pxa_cons (px_var 0) pxa_nil))) (pxa_cons (px_var 3) pxa_nil))) pxa_nil))) pxa_nil))))
    sx_nil))
theorem sc23 : FnScope ["roads", "walkers", "asked", "base"] ["roads", "walkers", "asked", "base"] (defScope (top 38)) := ⟨rfl, rfl, rfl, by decide +kernel, rfl, by decide +kernel, by decide +kernel⟩
theorem d23 (G : Gs w K mg base ad) (F : Fs w K mg base ad (n + 2) C) (S : Fun K "base_ratio" "base_ratio" (top 38) (ad.f 23) (ad.d 23)) : FnOk P w K mg base (L2.CX P w) (n + 3) (ad.f 23) (ad.d 23) ["roads", "walkers", "asked", "base"] (spI K (cxl ad) 4 (runB C (fd23 fu))) :=
  body_ok (k := n + 2) (fd23 fu) S sc23 rfl (by decide) fun cdv A outer s0 H E hr =>
    (sx_cons (sx_expr (px_call F.f18 hr (takes_of rfl rfl rfl rfl) (pxa_cons (px_var 0) (pxa_cons (px_var 1) (pxa_cons (px_var 2) pxa_nil)))))
    (sx_cons (sx_if (pxt_w (pxw_or (pxt_not (pxt_val (px_call F.f4 hr (takes_of rfl rfl rfl rfl) (pxa_cons (px_var 3) pxa_nil)))) (pxw_one (pxt_cmp op_le s_le (px_call F.f9 hr (takes_of rfl rfl rfl rfl) (pxa_cons (px_var 3) (pxa_cons (px_kc G.k_WHOLE) pxa_nil))) px_int rfl)))) (sx_cons (sx_raise1 rfl G.x_InvalidBase (hr.mono (Nat.le_add_left _ _)) (takes_of rfl rfl rfl rfl) (px_var 3))
    sx_nil) sx_nil)
    (sx_cons (sx_ret (px_call F.f22 hr (takes_of rfl rfl rfl rfl) (pxa_cons (px_op op_mulW s_mul (px_var 0) (px_var 2)) (pxa_cons (px_var 1) (pxa_cons (px_var 3) pxa_nil)))))
    sx_nil)))
theorem sc24 : FnScope ["roads", "walkers", "asked", "bottom", "whole", "low", "high", "first", "second", "base"] ["roads", "walkers", "asked", "bottom"] (defScope (top 39)) := ⟨rfl, rfl, rfl, by decide +kernel, rfl, by decide +kernel, by decide +kernel⟩
theorem d24 (G : Gs w K mg base ad) (F : Fs w K mg base ad (n + 2) C) (S : Fun K "best_over" "best_over" (top 39) (ad.f 24) (ad.d 24)) : FnOk P w K mg base (L2.CX P w) (n + 3) (ad.f 24) (ad.d 24) ["roads", "walkers", "asked", "bottom"] (spI K (cxl ad) 4 (runB C (fd24 fu))) :=
  body_ok (k := n + 2) (fd24 fu) S sc24 rfl (by decide) fun cdv A outer s0 H E hr =>
    (sx_cons (sx_expr (px_call F.f18 hr (takes_of rfl rfl rfl rfl) (pxa_cons (px_var 0) (pxa_cons (px_var 1) (pxa_cons (px_var 2) pxa_nil)))))
    (sx_cons (sx_expr (px_call F.f19 hr (takes_of rfl rfl rfl rfl) (pxa_cons (px_var 3) pxa_nil)))
    (sx_cons (sx_set 4 sc24.nd (px_op op_mulW s_mul (px_var 0) (px_var 2)))
    (sx_cons (sx_if (pxt_cmp op_ge s_ge (px_var 1) (px_var 4) rfl) (sx_cons (sx_ret px_non)
    sx_nil) sx_nil)
    (sx_cons (sx_set 5 sc24.nd (px_call F.f13 hr (takes_of rfl rfl rfl rfl) (pxa_cons (px_call F.f3 hr (takes_of rfl rfl rfl rfl) (pxa_cons (px_var 4) (pxa_cons (px_op op_sub s_sub (px_var 4) (px_var 1)) pxa_nil))) (pxa_cons (px_var 1) (pxa_cons (px_var 3) pxa_nil)))))
    (sx_cons (sx_set 6 sc24.nd (px_call F.f5 hr (takes_of rfl rfl rfl rfl) (pxa_cons (px_var 5) (pxa_cons (px_tup (pxa_cons px_int (pxa_cons (px_var 3) pxa_nil))) pxa_nil))))
    (sx_cons (sx_if (pxt_cmp op_le s_le (px_call F.f9 hr (takes_of rfl rfl rfl rfl) (pxa_cons (px_var 5) (pxa_cons (px_kc G.k_WHOLE) pxa_nil))) px_int rfl) (sx_cons (sx_ret (px_var 6))
    sx_nil) sx_nil)
    (sx_cons (sx_asg (px_comp (own := [("base", 9)]) rfl sc24.nd (xi_seq (px_tup (pxa_cons (px_var 5) (pxa_cons (px_var 6) pxa_nil)))) (show BlkOk ["roads", "walkers", "asked", "bottom", "whole", "low", "high", "first", "second", "base"] (defScope (top 39)) _ [("base", 9)] from ⟨rfl, by decide +kernel, by decide +kernel, by decide +kernel, by decide +kernel⟩) (fun _ _ _ _ _ => (gx_name 9 sc24.nd)) (fun _ _ _ _ _ => pts_true) (fun _ _ _ _ _ => (px_call F.f22 hr takes0 (pxa_cons (px_var 4) (pxa_cons (px_var 1) (pxa_cons (px_var 9) pxa_nil)))))) (gx_tup rfl (gxs_cons (gx_name 7 sc24.nd) (gxs_cons (gx_name 8 sc24.nd) gxs_nil))))
    (sx_cons (sx_ret (px_ifExp (pxt_cmp op_le s_le (px_call F.f9 hr (takes_of rfl rfl rfl rfl) (pxa_cons (px_var 7) (pxa_cons (px_var 8) pxa_nil))) px_int rfl) (px_var 5) (px_var 6)))
    sx_nil)))))))))
theorem sc25 : FnScope ["great", "small"] ["great"] (defScope (top 41)) := ⟨rfl, rfl, rfl, by decide +kernel, rfl, by decide +kernel, by decide +kernel⟩
theorem d25 (G : Gs w K mg base ad) (F : Fs w K mg base ad (n + 2) C) (S : Fun K "_law_box" "_law_box" (top 41) (ad.f 25) (ad.d 25)) : FnOk P w K mg base (L2.CX P w) (n + 3) (ad.f 25) (ad.d 25) ["great"] (spI K (cxl ad) 1 (runB C (fd25 fu))) :=
  body_ok (k := n + 2) (fd25 fu) S sc25 rfl (by decide) fun cdv A outer s0 H E hr =>
    (sx_cons (sx_set 1 sc25.nd (px_op op_mod s_mod (px_callTy call_int1 c_int G.n_int (pxa_cons (px_callB call_abs c_abs G.n_abs (pxa_cons (px_var 0) pxa_nil)) pxa_nil)) (px_op op_pow s_pow px_int px_int)))
    (sx_cons (sx_ret (px_lst (pxa_cons (px_var 1) (pxa_cons (px_cmp op_ge s_ge (px_callB call_abs c_abs G.n_abs (pxa_cons (px_var 0) pxa_nil)) (px_op op_pow s_pow px_int px_int) rfl) (pxa_cons (px_op op_mod s_mod (px_var 1) px_int) (pxa_cons px_int pxa_nil))))))
    sx_nil))
theorem sc26 : FnScope ["box", "many", "digit"] ["box", "many"] (defScope (top 42)) := ⟨rfl, rfl, rfl, by decide +kernel, rfl, by decide +kernel, by decide +kernel⟩
theorem d26 (G : Gs w K mg base ad) (F : Fs w K mg base ad (n + 2) C) (S : Fun K "_law_take" "_law_take" (top 42) (ad.f 26) (ad.d 26)) : FnOk P w K mg base (L2.CX P w) (n + 3) (ad.f 26) (ad.d 26) ["box", "many"] (spI K (cxl ad) 2 (runB C (fd26 fu))) :=
  body_ok (k := n + 2) (fd26 fu) S sc26 rfl (by decide) fun cdv A outer s0 H E hr =>
    (sx_cons (sx_if (pxt_w (pxw_and (pxt_val (px_ix (o_ix hr) s_ix (px_var 0) px_int)) (pxw_one (pxt_cmp op_gt s_gt (px_ix (o_ix hr) s_ix (px_var 0) px_int) px_int rfl)))) (sx_cons (sx_set 2 sc26.nd (px_op op_mod s_mod (px_callTy call_int1 c_int G.n_int (pxa_cons (px_ix (o_ix hr) s_ix (px_var 0) px_int) pxa_nil)) (px_var 1)))
    (sx_cons (sx_setIx (o_setIx hr) s_setIx (px_op op_fdivW s_div (px_callTy call_int1 c_int G.n_int (pxa_cons (px_ix (o_ix hr) s_ix (px_var 0) px_int) pxa_nil)) (px_var 1)) (px_var 0) px_int)
    (sx_cons (sx_ret (px_var 2))
    sx_nil))) sx_nil)
    (sx_cons (sx_setIx (o_setIx hr) s_setIx (px_op o_add s_add (px_ix (o_ix hr) s_ix (px_var 0) px_int) px_int) (px_var 0) px_int)
    (sx_cons (sx_setIx (o_setIx hr) s_setIx (px_op op_mod s_mod (px_op o_add s_add (px_op o_add s_add (px_op op_mulW s_mul (px_ix (o_ix hr) s_ix (px_var 0) px_int) px_int) (px_op op_mulW s_mul px_int (px_ix (o_ix hr) s_ix (px_var 0) px_int))) px_int) px_int) (px_var 0) px_int)
    (sx_cons (sx_ret (px_op op_mod s_mod (px_callTy call_int1 c_int G.n_int (pxa_cons (px_op op_fdivW s_div (px_ix (o_ix hr) s_ix (px_var 0) px_int) px_int) pxa_nil)) (px_var 1)))
    sx_nil))))
theorem sc27 : FnScope ["box", "some"] ["box", "some"] (defScope (top 43)) := ⟨rfl, rfl, rfl, by decide +kernel, rfl, by decide +kernel, by decide +kernel⟩
theorem d27 (G : Gs w K mg base ad) (F : Fs w K mg base ad (n + 2) C) (S : Fun K "_law_pick" "_law_pick" (top 43) (ad.f 27) (ad.d 27)) : FnOk P w K mg base (L2.CX P w) (n + 3) (ad.f 27) (ad.d 27) ["box", "some"] (spI K (cxl ad) 2 (runB C (fd27 fu))) :=
  body_ok (k := n + 2) (fd27 fu) S sc27 rfl (by decide) fun cdv A outer s0 H E hr =>
    (sx_cons (sx_ret (px_ix (o_ix hr) s_ix (px_var 1) (px_call F.f26 hr (takes_of rfl rfl rfl rfl) (pxa_cons (px_var 0) (pxa_cons (px_callB o_len c_len G.n_len (pxa_cons (px_var 1) pxa_nil)) pxa_nil)))))
    sx_nil)
theorem sc28 : FnScope ["script", "k"] ["script", "k"] (defScope (top 44)) := ⟨rfl, rfl, rfl, by decide +kernel, rfl, by decide +kernel, by decide +kernel⟩
theorem d28 (G : Gs w K mg base ad) (F : Fs w K mg base ad (n + 2) C) (S : Fun K "_law_cell" "_law_cell" (top 44) (ad.f 28) (ad.d 28)) : FnOk P w K mg base (L2.CX P w) (n + 3) (ad.f 28) (ad.d 28) ["script", "k"] (spI K (cxl ad) 2 (runB C (fd28 fu))) :=
  body_ok (k := n + 2) (fd28 fu) S sc28 rfl (by decide) fun cdv A outer s0 H E hr =>
    (sx_cons (sx_ret (px_ifExp (pxt_cmp op_lt s_lt (px_var 1) (px_callB o_len c_len G.n_len (pxa_cons (px_var 0) pxa_nil)) rfl) (px_ix (o_ix hr) s_ix (px_var 0) (px_var 1)) (px_op o_add s_add (px_op op_mulW s_mul px_int (px_var 1)) (px_op op_mod s_mod (px_callTy call_int1 c_int G.n_int (pxa_cons (px_callB (cr_sum rfl) c_sum G.n_sum (pxa_cons (px_slice (px_var 0) pxo_none (pxo_some px_int)) pxa_nil)) pxa_nil)) px_int))))
    sx_nil)
theorem sc29 : FnScope ["top", "bottom", "one", "other"] ["top", "bottom"] (defScope (top 45)) := ⟨rfl, rfl, rfl, by decide +kernel, rfl, by decide +kernel, by decide +kernel⟩
theorem d29 (G : Gs w K mg base ad) (F : Fs w K mg base ad (n + 2) C) (S : Fun K "_law_low" "_law_low" (top 45) (ad.f 29) (ad.d 29)) : FnOk P w K mg base (L2.CX P w) (n + 3) (ad.f 29) (ad.d 29) ["top", "bottom"] (spI K (cxl ad) 2 (runB C (fd29 fu))) :=
  body_ok (k := n + 2) (fd29 fu) S sc29 rfl (by decide) fun cdv A outer s0 H E hr =>
    (sx_cons (sx_par 2 3 rfl sc29.nd (pxa_cons (px_callB call_abs c_abs G.n_abs (pxa_cons (px_var 0) pxa_nil)) (pxa_cons (px_callB call_abs c_abs G.n_abs (pxa_cons (px_var 1) pxa_nil)) pxa_nil)))
    (sx_cons (sx_while PassesOwn.leaving (pxt_cmp op_gt s_gt (px_var 3) px_int rfl) (sx_cons (sx_par 2 3 rfl sc29.nd (pxa_cons (px_var 3) (pxa_cons (px_op op_mod s_mod (px_callTy call_int1 c_int G.n_int (pxa_cons (px_var 2) pxa_nil)) (px_var 3)) pxa_nil)))
    sx_nil))
    (sx_cons (sx_if (pxt_cmp op_lt s_lt (px_var 1) px_int rfl) (sx_cons (sx_set 2 sc29.nd (px_un un_neg s_neg (px_var 2)))
    sx_nil) sx_nil)
    (sx_cons (sx_ret (px_tup (pxa_cons (px_op op_fdivW s_div (px_var 0) (px_var 2)) (pxa_cons (px_op op_fdivW s_div (px_var 1) (px_var 2)) pxa_nil))))
    sx_nil))))
theorem sc30 : FnScope ["one", "other"] ["one", "other"] (defScope (top 46)) := ⟨rfl, rfl, rfl, by decide +kernel, rfl, by decide +kernel, by decide +kernel⟩
theorem d30 (G : Gs w K mg base ad) (F : Fs w K mg base ad (n + 2) C) (S : Fun K "_law_plus" "_law_plus" (top 46) (ad.f 30) (ad.d 30)) : FnOk P w K mg base (L2.CX P w) (n + 3) (ad.f 30) (ad.d 30) ["one", "other"] (spI K (cxl ad) 2 (runB C (fd30 fu))) :=
  body_ok (k := n + 2) (fd30 fu) S sc30 rfl (by decide) fun cdv A outer s0 H E hr =>
    (sx_cons (sx_ret (px_call F.f29 hr (takes_of rfl rfl rfl rfl) (pxa_cons (px_op o_add s_add (px_op op_mulW s_mul (px_ix (o_ix hr) s_ix (px_var 0) px_int) (px_ix (o_ix hr) s_ix (px_var 1) px_int)) (px_op op_mulW s_mul (px_ix (o_ix hr) s_ix (px_var 1) px_int) (px_ix (o_ix hr) s_ix (px_var 0) px_int))) (pxa_cons (px_op op_mulW s_mul (px_ix (o_ix hr) s_ix (px_var 0) px_int) (px_ix (o_ix hr) s_ix (px_var 1) px_int)) pxa_nil))))
    sx_nil)
theorem sc31 : FnScope ["one", "other"] ["one", "other"] (defScope (top 47)) := ⟨rfl, rfl, rfl, by decide +kernel, rfl, by decide +kernel, by decide +kernel⟩
theorem d31 (G : Gs w K mg base ad) (F : Fs w K mg base ad (n + 2) C) (S : Fun K "_law_minus" "_law_minus" (top 47) (ad.f 31) (ad.d 31)) : FnOk P w K mg base (L2.CX P w) (n + 3) (ad.f 31) (ad.d 31) ["one", "other"] (spI K (cxl ad) 2 (runB C (fd31 fu))) :=
  body_ok (k := n + 2) (fd31 fu) S sc31 rfl (by decide) fun cdv A outer s0 H E hr =>
    (sx_cons (sx_ret (px_call F.f29 hr (takes_of rfl rfl rfl rfl) (pxa_cons (px_op op_sub s_sub (px_op op_mulW s_mul (px_ix (o_ix hr) s_ix (px_var 0) px_int) (px_ix (o_ix hr) s_ix (px_var 1) px_int)) (px_op op_mulW s_mul (px_ix (o_ix hr) s_ix (px_var 1) px_int) (px_ix (o_ix hr) s_ix (px_var 0) px_int))) (pxa_cons (px_op op_mulW s_mul (px_ix (o_ix hr) s_ix (px_var 0) px_int) (px_ix (o_ix hr) s_ix (px_var 1) px_int)) pxa_nil))))
    sx_nil)
theorem sc32 : FnScope ["one", "other"] ["one", "other"] (defScope (top 48)) := ⟨rfl, rfl, rfl, by decide +kernel, rfl, by decide +kernel, by decide +kernel⟩
theorem d32 (G : Gs w K mg base ad) (F : Fs w K mg base ad (n + 2) C) (S : Fun K "_law_times" "_law_times" (top 48) (ad.f 32) (ad.d 32)) : FnOk P w K mg base (L2.CX P w) (n + 3) (ad.f 32) (ad.d 32) ["one", "other"] (spI K (cxl ad) 2 (runB C (fd32 fu))) :=
  body_ok (k := n + 2) (fd32 fu) S sc32 rfl (by decide) fun cdv A outer s0 H E hr =>
    (sx_cons (sx_ret (px_call F.f29 hr (takes_of rfl rfl rfl rfl) (pxa_cons (px_op op_mulW s_mul (px_ix (o_ix hr) s_ix (px_var 0) px_int) (px_ix (o_ix hr) s_ix (px_var 1) px_int)) (pxa_cons (px_op op_mulW s_mul (px_ix (o_ix hr) s_ix (px_var 0) px_int) (px_ix (o_ix hr) s_ix (px_var 1) px_int)) pxa_nil))))
    sx_nil)
theorem sc33 : FnScope ["one", "other"] ["one", "other"] (defScope (top 49)) := ⟨rfl, rfl, rfl, by decide +kernel, rfl, by decide +kernel, by decide +kernel⟩
theorem d33 (G : Gs w K mg base ad) (F : Fs w K mg base ad (n + 2) C) (S : Fun K "_law_over" "_law_over" (top 49) (ad.f 33) (ad.d 33)) : FnOk P w K mg base (L2.CX P w) (n + 3) (ad.f 33) (ad.d 33) ["one", "other"] (spI K (cxl ad) 2 (runB C (fd33 fu))) :=
  body_ok (k := n + 2) (fd33 fu) S sc33 rfl (by decide) fun cdv A outer s0 H E hr =>
    (sx_cons (sx_ret (px_call F.f29 hr (takes_of rfl rfl rfl rfl) (pxa_cons (px_op op_mulW s_mul (px_ix (o_ix hr) s_ix (px_var 0) px_int) (px_ix (o_ix hr) s_ix (px_var 1) px_int)) (pxa_cons (px_op op_mulW s_mul (px_ix (o_ix hr) s_ix (px_var 0) px_int) (px_ix (o_ix hr) s_ix (px_var 1) px_int)) pxa_nil))))
    sx_nil)
theorem sc34 : FnScope ["one", "other"] ["one", "other"] (defScope (top 50)) := ⟨rfl, rfl, rfl, by decide +kernel, rfl, by decide +kernel, by decide +kernel⟩
theorem d34 (G : Gs w K mg base ad) (F : Fs w K mg base ad (n + 2) C) (S : Fun K "_law_less" "_law_less" (top 50) (ad.f 34) (ad.d 34)) : FnOk P w K mg base (L2.CX P w) (n + 3) (ad.f 34) (ad.d 34) ["one", "other"] (spI K (cxl ad) 2 (runB C (fd34 fu))) :=
  body_ok (k := n + 2) (fd34 fu) S sc34 rfl (by decide) fun cdv A outer s0 H E hr =>
    (sx_cons (sx_ret (px_cmp op_lt s_lt (px_op op_mulW s_mul (px_ix (o_ix hr) s_ix (px_var 0) px_int) (px_ix (o_ix hr) s_ix (px_var 1) px_int)) (px_op op_mulW s_mul (px_ix (o_ix hr) s_ix (px_var 1) px_int) (px_ix (o_ix hr) s_ix (px_var 0) px_int)) rfl))
    sx_nil)
theorem sc35 : FnScope ["one", "many", "top", "bottom", "turn"] ["one", "many"] (defScope (top 51)) := ⟨rfl, rfl, rfl, by decide +kernel, rfl, by decide +kernel, by decide +kernel⟩
theorem d35 (G : Gs w K mg base ad) (F : Fs w K mg base ad (n + 2) C) (S : Fun K "_law_power" "_law_power" (top 51) (ad.f 35) (ad.d 35)) : FnOk P w K mg base (L2.CX P w) (n + 3) (ad.f 35) (ad.d 35) ["one", "many"] (spI K (cxl ad) 2 (runB C (fd35 fu))) :=
  body_ok (k := n + 2) (fd35 fu) S sc35 rfl (by decide) fun cdv A outer s0 H E hr =>
    (sx_cons (sx_asg (px_tup (pxa_cons px_int (pxa_cons px_int pxa_nil))) (gx_tup rfl (gxs_cons (gx_name 2 sc35.nd) (gxs_cons (gx_name 3 sc35.nd) gxs_nil))))
    (sx_cons (sx_for PassesOwn.leaving rfl (xi_range1 G.n_range (pxa_cons (px_var 1) pxa_nil)) (gx_name 4 sc35.nd) (sx_cons (sx_par 2 3 rfl sc35.nd (pxa_cons (px_op op_mulW s_mul (px_var 2) (px_ix (o_ix hr) s_ix (px_var 0) px_int)) (pxa_cons (px_op op_mulW s_mul (px_var 3) (px_ix (o_ix hr) s_ix (px_var 0) px_int)) pxa_nil)))
    sx_nil))
    (sx_cons (sx_ret (px_tup (pxa_cons (px_var 2) (pxa_cons (px_var 3) pxa_nil))))
    sx_nil)))
theorem sc36 : FnScope ["told", "due", "key", "k"] ["told", "due"] (defScope (top 52)) := ⟨rfl, rfl, rfl, by decide +kernel, rfl, by decide +kernel, by decide +kernel⟩
theorem d36 (G : Gs w K mg base ad) (F : Fs w K mg base ad (n + 2) C) (S : Fun K "_law_same" "_law_same" (top 52) (ad.f 36) (ad.d 36)) : FnOk P w K mg base (L2.CX P w) (n + 3) (ad.f 36) (ad.d 36) ["told", "due"] (spI K (cxl ad) 2 (runB C (fd36 fu))) :=
  body_ok (k := n + 2) (fd36 fu) S sc36 rfl (by decide) fun cdv A outer s0 H E hr =>
    (sx_cons (sx_if (pxt_w (pxw_or (pxt_cmp o_is s_is (px_var 1) px_non rfl) (pxw_one (pxt_val (px_isi (px_var 1) (pe_tyName G.n_bool) G.n_isinstance))))) (sx_cons (sx_ret (px_ifExp (pxt_cmp o_is s_is (px_var 1) px_non rfl) (px_cmp o_is s_is (px_var 0) px_non rfl) (px_and (px_isi (px_var 0) (pe_tyName G.n_bool) G.n_isinstance) (px_one (px_cmp (o_eq hr) s_eq (px_cmp o_is s_is (px_var 0) px_bl rfl) (px_cmp o_is s_is (px_var 1) px_bl rfl) rfl)))))
    sx_nil) sx_nil)
    (sx_cons (sx_if (pxt_val (px_isi (px_var 1) (pe_tyName G.n_int) G.n_isinstance)) (sx_cons (sx_ret (px_and (px_isi (px_var 0) (pe_tyName G.n_int) G.n_isinstance) (px_and (px_not (px_isi (px_var 0) (pe_tyName G.n_bool) G.n_isinstance)) (px_one (px_cmp (o_eq hr) s_eq (px_var 0) (px_var 1) rfl)))))
    sx_nil) sx_nil)
    (sx_cons (sx_if (pxt_val (px_isi (px_var 1) (pe_tyName G.n_str) G.n_isinstance)) (sx_cons (sx_ret (px_and (px_isi (px_var 0) (pe_tyName G.n_str) G.n_isinstance) (px_one (px_cmp (o_eq hr) s_eq (px_var 0) (px_var 1) rfl))))
    sx_nil) sx_nil)
    (sx_cons (sx_if (pxt_val (px_isi (px_var 1) (pe_tyName G.n_dict) G.n_isinstance)) (sx_cons (sx_ret (px_and (px_isi (px_var 0) (pe_tyName G.n_dict) G.n_isinstance) (px_and (px_cmp (o_eq hr) s_eq (px_callB o_len c_len G.n_len (pxa_cons (px_var 0) pxa_nil)) (px_callB o_len c_len G.n_len (pxa_cons (px_var 1) pxa_nil)) rfl) (px_one (px_cmp (o_eq hr) s_eq (px_lock 1 (px_comp (own := [("key", 2)]) rfl sc36.nd (xi_keys (px_var 1)) (show BlkOk ["told", "due", "key", "k"] (defScope (top 52)) _ [("key", 2)] from ⟨rfl, by decide +kernel, by decide +kernel, by decide +kernel, by decide +kernel⟩) (fun _ _ _ _ _ => (gx_name 2 sc36.nd)) (fun _ _ _ _ _ => (pts_if (pxt_w (pxw_or (pxt_cmp (o_notIn hr) s_notIn (px_var 2) (px_var 0) rfl) (pxw_one (pxt_not (pxt_val (px_call F.f36 hr takes0 (pxa_cons (px_ix (o_ix hr) s_ix (px_var 0) (px_var 2)) (pxa_cons (px_ix (o_ix hr) s_ix (px_var 1) (px_var 2)) pxa_nil)))))))))) (fun _ _ _ _ _ => (px_var 2)))) (px_lst pxa_nil) rfl)))))
    sx_nil) sx_nil)
    (sx_cons (sx_if (pxt_w (pxw_or (pxt_not (pxt_val (px_isiT (px_var 1) (pty_cons (pe_tyName G.n_list) (pty_cons (pe_tyName G.n_tuple) pty_nil)) G.n_isinstance))) (pxw_one (pxt_not (pxt_val (px_isiT (px_var 0) (pty_cons (pe_tyName G.n_list) (pty_cons (pe_tyName G.n_tuple) pty_nil)) G.n_isinstance)))))) (sx_cons (sx_ret px_bl)
    sx_nil) sx_nil)
    (sx_cons (sx_if (pxt_w (pxw_or (pxt_cmp (o_ne hr) s_ne (px_isi (px_var 0) (pe_tyName G.n_list) G.n_isinstance) (px_isi (px_var 1) (pe_tyName G.n_list) G.n_isinstance) rfl) (pxw_one (pxt_cmp (o_ne hr) s_ne (px_callB o_len c_len G.n_len (pxa_cons (px_var 0) pxa_nil)) (px_callB o_len c_len G.n_len (pxa_cons (px_var 1) pxa_nil)) rfl)))) (sx_cons (sx_ret px_bl)
    sx_nil) sx_nil)
    (sx_cons (sx_ret (px_cmp (o_eq hr) s_eq (px_comp (own := [("k", 3)]) rfl sc36.nd (xi_range1 G.n_range (pxa_cons (px_callB o_len c_len G.n_len (pxa_cons (px_var 1) pxa_nil)) pxa_nil)) (show BlkOk ["told", "due", "key", "k"] (defScope (top 52)) _ [("k", 3)] from ⟨rfl, by decide +kernel, by decide +kernel, by decide +kernel, by decide +kernel⟩) (fun _ _ _ _ _ => (gx_name 3 sc36.nd)) (fun _ _ _ _ _ => (pts_if (pxt_not (pxt_val (px_call F.f36 hr takes0 (pxa_cons (px_ix (o_ix hr) s_ix (px_var 0) (px_var 3)) (pxa_cons (px_ix (o_ix hr) s_ix (px_var 1) (px_var 3)) pxa_nil))))))) (fun _ _ _ _ _ => (px_var 3))) (px_lst pxa_nil) rfl))
    sx_nil)))))))
theorem sc37 : FnScope ["told", "word", "value"] ["told", "word", "value"] (defScope (top 53)) := ⟨rfl, rfl, rfl, by decide +kernel, rfl, by decide +kernel, by decide +kernel⟩
theorem d37 (G : Gs w K mg base ad) (F : Fs w K mg base ad (n + 2) C) (S : Fun K "_law_blamed" "_law_blamed" (top 53) (ad.f 37) (ad.d 37)) : FnOk P w K mg base (L2.CX P w) (n + 3) (ad.f 37) (ad.d 37) ["told", "word", "value"] (spI K (cxl ad) 3 (runB C (fd37 fu))) :=
  body_ok (k := n + 2) (fd37 fu) S sc37 rfl (by decide) fun cdv A outer s0 H E hr =>
    (sx_cons (sx_if (pxt_w (pxw_or (pxt_cmp (o_ne hr) s_ne (px_ix (o_ix hr) s_ix (px_var 0) px_int) (px_var 1) rfl) (pxw_one (pxt_not (pxt_val (px_call F.f36 hr (takes_of rfl rfl rfl rfl) (pxa_cons (px_ix (o_ix hr) s_ix (px_var 0) px_int) (pxa_cons (px_var 2) pxa_nil)))))))) (sx_cons (sx_ret px_bl)
    sx_nil) sx_nil)
    (sx_cons (sx_if (pxt_val (px_isi (px_var 2) (pe_tyName G.n_list) G.n_isinstance)) (sx_cons (sx_expr (px_append (px_var 2) px_int))
    sx_nil) sx_nil)
    (sx_cons (sx_if (pxt_val (px_isi (px_var 2) (pe_tyName G.n_dict) G.n_isinstance)) (sx_cons (sx_setIx (o_setIx hr) s_setIx px_int (px_var 2) px_str)
    sx_nil) sx_nil)
    (sx_cons (sx_ret (px_call F.f36 hr (takes_of rfl rfl rfl rfl) (pxa_cons (px_ix (o_ix hr) s_ix (px_var 0) px_int) (pxa_cons (px_var 2) pxa_nil))))
    sx_nil))))
theorem sc38 : FnScope ["value"] ["value"] (defScope (top 54)) := ⟨rfl, rfl, rfl, by decide +kernel, rfl, by decide +kernel, by decide +kernel⟩
theorem d38 (G : Gs w K mg base ad) (F : Fs w K mg base ad (n + 2) C) (S : Fun K "_law_whole" "_law_whole" (top 54) (ad.f 38) (ad.d 38)) : FnOk P w K mg base (L2.CX P w) (n + 3) (ad.f 38) (ad.d 38) ["value"] (spI K (cxl ad) 1 (runB C (fd38 fu))) :=
  body_ok (k := n + 2) (fd38 fu) S sc38 rfl (by decide) fun cdv A outer s0 H E hr =>
    (sx_cons (sx_ret (px_and (px_isi (px_var 0) (pe_tyName G.n_int) G.n_isinstance) (px_one (px_not (px_isi (px_var 0) (pe_tyName G.n_bool) G.n_isinstance)))))
    sx_nil)
theorem sc39 : FnScope ["value"] ["value"] (defScope (top 55)) := ⟨rfl, rfl, rfl, by decide +kernel, rfl, by decide +kernel, by decide +kernel⟩
theorem d39 (G : Gs w K mg base ad) (F : Fs w K mg base ad (n + 2) C) (S : Fun K "_law_is_fraction" "_law_is_fraction" (top 55) (ad.f 39) (ad.d 39)) : FnOk P w K mg base (L2.CX P w) (n + 3) (ad.f 39) (ad.d 39) ["value"] (spI K (cxl ad) 1 (runB C (fd39 fu))) :=
  body_ok (k := n + 2) (fd39 fu) S sc39 rfl (by decide) fun cdv A outer s0 H E hr =>
    (sx_cons (sx_if (pxt_w (pxw_or (pxt_not (pxt_val (px_isi (px_var 0) (pe_tyName G.n_tuple) G.n_isinstance))) (pxw_or (pxt_cmp (o_ne hr) s_ne (px_callB o_len c_len G.n_len (pxa_cons (px_var 0) pxa_nil)) px_int rfl) (pxw_or (pxt_not (pxt_val (px_call F.f38 hr (takes_of rfl rfl rfl rfl) (pxa_cons (px_ix (o_ix hr) s_ix (px_var 0) px_int) pxa_nil)))) (pxw_one (pxt_not (pxt_val (px_call F.f38 hr (takes_of rfl rfl rfl rfl) (pxa_cons (px_ix (o_ix hr) s_ix (px_var 0) px_int) pxa_nil))))))))) (sx_cons (sx_ret px_bl)
    sx_nil) sx_nil)
    (sx_cons (sx_ret (px_and (px_cmp op_gt s_gt (px_ix (o_ix hr) s_ix (px_var 0) px_int) px_int rfl) (px_one (px_cmp (o_eq hr) s_eq (px_call F.f29 hr (takes_of rfl rfl rfl rfl) (pxa_cons (px_ix (o_ix hr) s_ix (px_var 0) px_int) (pxa_cons (px_ix (o_ix hr) s_ix (px_var 0) px_int) pxa_nil))) (px_var 0) rfl))))
    sx_nil))
theorem sc40 : FnScope ["box"] ["box"] (defScope (top 56)) := ⟨rfl, rfl, rfl, by decide +kernel, rfl, by decide +kernel, by decide +kernel⟩
theorem d40 (G : Gs w K mg base ad) (F : Fs w K mg base ad (n + 2) C) (S : Fun K "_law_distance" "_law_distance" (top 56) (ad.f 40) (ad.d 40)) : FnOk P w K mg base (L2.CX P w) (n + 3) (ad.f 40) (ad.d 40) ["box"] (spI K (cxl ad) 1 (runB C (fd40 fu))) :=
  body_ok (k := n + 2) (fd40 fu) S sc40 rfl (by decide) fun cdv A outer s0 H E hr =>
    (sx_cons (sx_ret (px_call F.f29 hr (takes_of rfl rfl rfl rfl) (pxa_cons (px_call F.f27 hr (takes_of rfl rfl rfl rfl) (pxa_cons (px_var 0) (pxa_cons (px_lst (pxa_cons px_int (pxa_cons px_int (pxa_cons px_int (pxa_cons px_int (pxa_cons px_int (pxa_cons px_int (pxa_cons px_int pxa_nil)))))))) pxa_nil))) (pxa_cons (px_call F.f27 hr (takes_of rfl rfl rfl rfl) (pxa_cons (px_var 0) (pxa_cons (px_lst (pxa_cons px_int (pxa_cons px_int (pxa_cons px_int (pxa_cons px_int (pxa_cons px_int pxa_nil)))))) pxa_nil))) pxa_nil))))
    sx_nil)
theorem sc41 : FnScope ["one", "many", "found", "turn"] ["one", "many"] (defScope (top 57)) := ⟨rfl, rfl, rfl, by decide +kernel, rfl, by decide +kernel, by decide +kernel⟩
theorem d41 (G : Gs w K mg base ad) (F : Fs w K mg base ad (n + 2) C) (S : Fun K "_law_raised" "_law_raised" (top 57) (ad.f 41) (ad.d 41)) : FnOk P w K mg base (L2.CX P w) (n + 3) (ad.f 41) (ad.d 41) ["one", "many"] (spI K (cxl ad) 2 (runB C (fd41 fu))) :=
  body_ok (k := n + 2) (fd41 fu) S sc41 rfl (by decide) fun cdv A outer s0 H E hr =>
    (sx_cons (sx_set 2 sc41.nd px_int)
    (sx_cons (sx_for PassesOwn.leaving rfl (xi_range1 G.n_range (pxa_cons (px_var 1) pxa_nil)) (gx_name 3 sc41.nd) (sx_cons (sx_set 2 sc41.nd (px_op op_mulW s_mul (px_var 2) (px_var 0)))
    sx_nil))
    (sx_cons (sx_ret (px_var 2))
    sx_nil)))
theorem sc42 : FnScope ["roads", "walkers", "asked", "ratio", "whole", "n", "d", "rest", "left"] ["roads", "walkers", "asked", "ratio"] (defScope (top 58)) := ⟨rfl, rfl, rfl, by decide +kernel, rfl, by decide +kernel, by decide +kernel⟩
theorem d42 (G : Gs w K mg base ad) (F : Fs w K mg base ad (n + 2) C) (S : Fun K "_law_keeps" "_law_keeps" (top 58) (ad.f 42) (ad.d 42)) : FnOk P w K mg base (L2.CX P w) (n + 3) (ad.f 42) (ad.d 42) ["roads", "walkers", "asked", "ratio"] (spI K (cxl ad) 4 (runB C (fd42 fu))) :=
  body_ok (k := n + 2) (fd42 fu) S sc42 rfl (by decide) fun cdv A outer s0 H E hr =>
    (sx_cons (sx_set 4 sc42.nd (px_op op_mulW s_mul (px_var 0) (px_var 2)))
    (sx_cons (sx_if (pxt_w (pxw_or (pxt_cmp op_gt s_gt (px_var 2) (px_var 1) rfl) (pxw_one (pxt_cmp op_ge s_ge (px_var 1) (px_var 4) rfl)))) (sx_cons (sx_ret (px_cmp op_le s_le (px_var 2) (px_var 1) rfl))
    sx_nil) sx_nil)
    (sx_cons (sx_par 5 6 rfl sc42.nd (pxa_cons (px_op op_sub s_sub (px_ix (o_ix hr) s_ix (px_var 3) px_int) (px_ix (o_ix hr) s_ix (px_var 3) px_int)) (pxa_cons (px_op op_mulW s_mul px_int (px_ix (o_ix hr) s_ix (px_var 3) px_int)) pxa_nil)))
    (sx_cons (sx_set 7 sc42.nd (px_op op_sub s_sub (px_var 4) (px_var 1)))
    (sx_cons (sx_set 8 sc42.nd (px_op op_mulW s_mul (px_op op_mulW s_mul (px_call F.f41 hr (takes_of rfl rfl rfl rfl) (pxa_cons (px_var 5) (pxa_cons (px_var 1) pxa_nil))) (px_call F.f41 hr (takes_of rfl rfl rfl rfl) (pxa_cons (px_var 1) (pxa_cons (px_var 1) pxa_nil)))) (px_call F.f41 hr (takes_of rfl rfl rfl rfl) (pxa_cons (px_var 7) (pxa_cons (px_var 7) pxa_nil)))))
    (sx_cons (sx_ret (px_cmp op_ge s_ge (px_var 8) (px_op op_mulW s_mul (px_call F.f41 hr (takes_of rfl rfl rfl rfl) (pxa_cons (px_var 4) (pxa_cons (px_var 4) pxa_nil))) (px_call F.f41 hr (takes_of rfl rfl rfl rfl) (pxa_cons (px_var 6) (pxa_cons (px_var 1) pxa_nil)))) rfl))
    sx_nil))))))
theorem sc43 : FnScope ["roads", "walkers", "asked", "whole", "rest", "power", "each"] ["roads", "walkers", "asked"] (defScope (top 59)) := ⟨rfl, rfl, rfl, by decide +kernel, rfl, by decide +kernel, by decide +kernel⟩
theorem d43 (G : Gs w K mg base ad) (F : Fs w K mg base ad (n + 2) C) (S : Fun K "_law_bound" "_law_bound" (top 59) (ad.f 43) (ad.d 43)) : FnOk P w K mg base (L2.CX P w) (n + 3) (ad.f 43) (ad.d 43) ["roads", "walkers", "asked"] (spI K (cxl ad) 3 (runB C (fd43 fu))) :=
  body_ok (k := n + 2) (fd43 fu) S sc43 rfl (by decide) fun cdv A outer s0 H E hr =>
    (sx_cons (sx_set 3 sc43.nd (px_op op_mulW s_mul (px_var 0) (px_var 2)))
    (sx_cons (sx_if (pxt_cmp op_ge s_ge (px_var 1) (px_var 3) rfl) (sx_cons (sx_ret (px_tup (pxa_cons px_non (pxa_cons (px_tup (pxa_cons px_int (pxa_cons px_int pxa_nil))) pxa_nil))))
    sx_nil) sx_nil)
    (sx_cons (sx_set 4 sc43.nd (px_op op_sub s_sub (px_var 3) (px_var 1)))
    (sx_cons (sx_set 5 sc43.nd (px_call F.f29 hr (takes_of rfl rfl rfl rfl) (pxa_cons (px_call F.f41 hr (takes_of rfl rfl rfl rfl) (pxa_cons (px_var 3) (pxa_cons (px_var 3) pxa_nil))) (pxa_cons (px_op op_mulW s_mul (px_call F.f41 hr (takes_of rfl rfl rfl rfl) (pxa_cons (px_var 1) (pxa_cons (px_var 1) pxa_nil))) (px_call F.f41 hr (takes_of rfl rfl rfl rfl) (pxa_cons (px_var 4) (pxa_cons (px_var 4) pxa_nil)))) pxa_nil))))
    (sx_cons (sx_if (pxt_cmp (o_ne hr) s_ne (px_op op_mod s_mod (px_callTy call_int1 c_int G.n_int (pxa_cons (px_var 3) pxa_nil)) (px_var 1)) px_int rfl) (sx_cons (sx_ret (px_tup (pxa_cons (px_var 5) (pxa_cons px_non pxa_nil))))
    sx_nil) sx_nil)
    (sx_cons (sx_set 6 sc43.nd (px_op op_fdivW s_div (px_var 3) (px_var 1)))
    (sx_cons (sx_ret (px_tup (pxa_cons (px_var 5) (pxa_cons (px_call F.f30 hr (takes_of rfl rfl rfl rfl) (pxa_cons (px_tup (pxa_cons px_int (pxa_cons px_int pxa_nil))) (pxa_cons (px_call F.f29 hr (takes_of rfl rfl rfl rfl) (pxa_cons (px_op op_mulW s_mul px_int (px_call F.f41 hr (takes_of rfl rfl rfl rfl) (pxa_cons (px_var 6) (pxa_cons (px_var 6) pxa_nil)))) (pxa_cons (px_call F.f41 hr (takes_of rfl rfl rfl rfl) (pxa_cons (px_op op_sub s_sub (px_var 6) px_int) (pxa_cons (px_op op_sub s_sub (px_var 6) px_int) pxa_nil))) pxa_nil))) pxa_nil))) pxa_nil))))
    sx_nil)))))))
theorem sc44 : FnScope ["roads", "walkers", "asked", "bottom", "low", "high", "turn", "middle", "known"] ["roads", "walkers", "asked", "bottom"] (defScope (top 60)) := ⟨rfl, rfl, rfl, by decide +kernel, rfl, by decide +kernel, by decide +kernel⟩
theorem d44 (G : Gs w K mg base ad) (F : Fs w K mg base ad (n + 2) C) (S : Fun K "_law_near" "_law_near" (top 60) (ad.f 44) (ad.d 44)) : FnOk P w K mg base (L2.CX P w) (n + 3) (ad.f 44) (ad.d 44) ["roads", "walkers", "asked", "bottom"] (spI K (cxl ad) 4 (runB C (fd44 fu))) :=
  body_ok (k := n + 2) (fd44 fu) S sc44 rfl (by decide) fun cdv A outer s0 H E hr =>
    (sx_cons (sx_if (pxt_cmp op_ge s_ge (px_var 1) (px_op op_mulW s_mul (px_var 0) (px_var 2)) rfl) (sx_cons (sx_ret (px_var 3))
    sx_nil) sx_nil)
    (sx_cons (sx_par 4 5 rfl sc44.nd (pxa_cons (px_var 3) (pxa_cons (px_op op_mulW s_mul px_int (px_var 3)) pxa_nil)))
    (sx_cons (sx_for PassesOwn.leaving rfl (xi_range1 G.n_range (pxa_cons px_int pxa_nil)) (gx_name 6 sc44.nd) (sx_cons (sx_if (pxt_val (px_call F.f42 hr (takes_of rfl rfl rfl rfl) (pxa_cons (px_var 0) (pxa_cons (px_var 1) (pxa_cons (px_var 2) (pxa_cons (px_call F.f29 hr (takes_of rfl rfl rfl rfl) (pxa_cons (px_var 5) (pxa_cons (px_var 3) pxa_nil))) pxa_nil)))))) (sx_cons sx_break
    sx_nil) sx_nil)
    (sx_cons (sx_par 4 5 rfl sc44.nd (pxa_cons (px_var 5) (pxa_cons (px_op op_mulW s_mul px_int (px_var 5)) pxa_nil)))
    sx_nil)))
    (sx_cons (sx_for PassesOwn.leaving rfl (xi_range1 G.n_range (pxa_cons px_int pxa_nil)) (gx_name 6 sc44.nd) (sx_cons (sx_if (pxt_cmp (o_eq hr) s_eq (px_op op_sub s_sub (px_var 5) (px_var 4)) px_int rfl) (sx_cons sx_break
    sx_nil) sx_nil)
    (sx_cons (sx_set 7 sc44.nd (px_op op_fdivW s_div (px_op o_add s_add (px_var 4) (px_var 5)) px_int))
    (sx_cons (sx_if (pxt_val (px_call F.f42 hr (takes_of rfl rfl rfl rfl) (pxa_cons (px_var 0) (pxa_cons (px_var 1) (pxa_cons (px_var 2) (pxa_cons (px_call F.f29 hr (takes_of rfl rfl rfl rfl) (pxa_cons (px_var 7) (pxa_cons (px_var 3) pxa_nil))) pxa_nil)))))) (sx_cons (sx_set 5 sc44.nd (px_var 7))
    sx_nil) (sx_cons (sx_set 4 sc44.nd (px_var 7))
    sx_nil))
    sx_nil))))
    (sx_cons (sx_set 8 sc44.nd (px_ix (o_ix hr) s_ix (px_call F.f43 hr (takes_of rfl rfl rfl rfl) (pxa_cons (px_var 0) (pxa_cons (px_var 1) (pxa_cons (px_var 2) pxa_nil)))) px_int))
    (sx_cons (sx_ret (px_ifExp (pxt_w (pxw_and (pxt_cmp o_isNot s_isNot (px_var 8) px_non rfl) (pxw_one (pxt_cmp (o_eq hr) s_eq (px_call F.f29 hr (takes_of rfl rfl rfl rfl) (pxa_cons (px_var 5) (pxa_cons (px_var 3) pxa_nil))) (px_var 8) rfl)))) (px_var 5) (px_op op_sub s_sub (px_var 5) px_int)))
    sx_nil))))))
theorem sc45 : FnScope ["which", "args", "named", "e"] ["which", "args", "named"] (defScope (top 61)) := ⟨rfl, rfl, rfl, by decide +kernel, rfl, by decide +kernel, by decide +kernel⟩
theorem d45 (G : Gs w K mg base ad) (F : Fs w K mg base ad (n + 2) C) (S : Fun K "_law_called" "_law_called" (top 61) (ad.f 45) (ad.d 45)) : FnOk P w K mg base (L2.CX P w) (n + 3) (ad.f 45) (ad.d 45) ["which", "args", "named"] (spI K (cxl ad) 3 (runB C (fd45 fu))) :=
  body_ok (k := n + 2) (fd45 fu) S sc45 rfl (by decide) fun cdv A outer s0 H E hr =>
    (sx_cons (sx_try rfl rfl sc45.nd (takes_of rfl rfl rfl rfl) (fun W pn xe tk hp => (sx_cons (sx_if (pxt_cmp (o_eq hr) s_eq (px_var 0) px_int rfl) (sx_cons (sx_ret (px_lst (pxa_cons px_str (pxa_cons (px_ifExp (pxt_val (px_var 2)) (px_callK F.f21 (G.kb2) hr tk (pxk_cons (px_ix (o_ix hr) s_ix (px_var 1) px_int) (pxk_cons (px_ix (o_ix hr) s_ix (px_var 1) px_int) (pxk_cons (px_ix (o_ix hr) s_ix (px_var 1) px_int) (pxk_cons (px_ix (o_ix hr) s_ix (px_var 1) px_int) pxk_nil))))) (px_call F.f21 hr tk (pxa_cons (px_ix (o_ix hr) s_ix (px_var 1) px_int) (pxa_cons (px_ix (o_ix hr) s_ix (px_var 1) px_int) (pxa_cons (px_ix (o_ix hr) s_ix (px_var 1) px_int) (pxa_cons (px_ix (o_ix hr) s_ix (px_var 1) px_int) pxa_nil)))))) pxa_nil))))
    sx_nil) sx_nil)
    (sx_cons (sx_if (pxt_cmp (o_eq hr) s_eq (px_var 0) px_int rfl) (sx_cons (sx_ret (px_lst (pxa_cons px_str (pxa_cons (px_ifExp (pxt_val (px_var 2)) (px_callK F.f23 (G.kb1) hr tk (pxk_cons (px_ix (o_ix hr) s_ix (px_var 1) px_int) (pxk_cons (px_ix (o_ix hr) s_ix (px_var 1) px_int) (pxk_cons (px_ix (o_ix hr) s_ix (px_var 1) px_int) (pxk_cons (px_ix (o_ix hr) s_ix (px_var 1) px_int) pxk_nil))))) (px_call F.f23 hr tk (pxa_cons (px_ix (o_ix hr) s_ix (px_var 1) px_int) (pxa_cons (px_ix (o_ix hr) s_ix (px_var 1) px_int) (pxa_cons (px_ix (o_ix hr) s_ix (px_var 1) px_int) (pxa_cons (px_ix (o_ix hr) s_ix (px_var 1) px_int) pxa_nil)))))) pxa_nil))))
    sx_nil) sx_nil)
    (sx_cons (sx_ret (px_lst (pxa_cons px_str (pxa_cons (px_ifExp (pxt_val (px_var 2)) (px_callK F.f24 (G.kb0) hr tk (pxk_cons (px_ix (o_ix hr) s_ix (px_var 1) px_int) (pxk_cons (px_ix (o_ix hr) s_ix (px_var 1) px_int) (pxk_cons (px_ix (o_ix hr) s_ix (px_var 1) px_int) (pxk_cons (px_ix (o_ix hr) s_ix (px_var 1) px_int) pxk_nil))))) (px_call F.f24 hr tk (pxa_cons (px_ix (o_ix hr) s_ix (px_var 1) px_int) (pxa_cons (px_ix (o_ix hr) s_ix (px_var 1) px_int) (pxa_cons (px_ix (o_ix hr) s_ix (px_var 1) px_int) (pxa_cons (px_ix (o_ix hr) s_ix (px_var 1) px_int) pxa_nil)))))) pxa_nil))))
    sx_nil)))) (.consA ⟨rfl, by decide, .inl G.x_InvalidRoads.mg⟩ rfl rfl (by decide) (G.hex_InvalidRoads) (fun a oe cls d pn hz hf hcls hd => (px_lst (pxa_cons px_str (pxa_cons (px_given 0 G.xf_InvalidRoads G.x_InvalidRoads.no hz hf hcls hd G.x_InvalidRoads.cx (i := 3)) pxa_nil)))) (.consA ⟨rfl, by decide, .inl G.x_InvalidWalkers.mg⟩ rfl rfl (by decide) (G.hex_InvalidWalkers) (fun a oe cls d pn hz hf hcls hd => (px_lst (pxa_cons px_str (pxa_cons (px_given 0 G.xf_InvalidWalkers G.x_InvalidWalkers.no hz hf hcls hd G.x_InvalidWalkers.cx (i := 3)) pxa_nil)))) (.consA ⟨rfl, by decide, .inl G.x_InvalidAsked.mg⟩ rfl rfl (by decide) (G.hex_InvalidAsked) (fun a oe cls d pn hz hf hcls hd => (px_lst (pxa_cons px_str (pxa_cons (px_given 0 G.xf_InvalidAsked G.x_InvalidAsked.no hz hf hcls hd G.x_InvalidAsked.cx (i := 3)) pxa_nil)))) (.consA ⟨rfl, by decide, .inl G.x_InvalidBase.mg⟩ rfl rfl (by decide) (G.hex_InvalidBase) (fun a oe cls d pn hz hf hcls hd => (px_lst (pxa_cons px_str (pxa_cons (px_given 0 G.xf_InvalidBase G.x_InvalidBase.no hz hf hcls hd G.x_InvalidBase.cx (i := 3)) pxa_nil)))) (.consA ⟨rfl, by decide, .inl G.x_InvalidNumber.mg⟩ rfl rfl (by decide) (G.hex_InvalidNumber) (fun a oe cls d pn hz hf hcls hd => (px_lst (pxa_cons px_str (pxa_cons (px_given 0 G.xf_InvalidNumber G.x_InvalidNumber.no hz hf hcls hd G.x_InvalidNumber.cx (i := 3)) pxa_nil)))) .nil))))))
    sx_nil)
theorem sc46 : FnScope ["box", "named", "which", "wrong", "k", "at", "args", "told", "walkers", "asked"] ["box", "named"] (defScope (top 62)) := ⟨rfl, rfl, rfl, by decide +kernel, rfl, by decide +kernel, by decide +kernel⟩
theorem d46 (G : Gs w K mg base ad) (F : Fs w K mg base ad (n + 2) C) (S : Fun K "_law_refused" "_law_refused" (top 62) (ad.f 46) (ad.d 46)) : FnOk P w K mg base (L2.CX P w) (n + 3) (ad.f 46) (ad.d 46) ["box", "named"] (spI K (cxl ad) 2 (runB C (fd46 fu))) :=
  body_ok (k := n + 2) (fd46 fu) S sc46 rfl (by decide) fun cdv A outer s0 H E hr =>
    (sx_cons (sx_for PassesOwn.leaving rfl (xi_range1 G.n_range (pxa_cons px_int pxa_nil)) (gx_name 2 sc46.nd) (sx_cons (sx_setComp 3 (own := [("k", 4)]) rfl sc46.nd rfl (xi_range1 G.n_range (pxa_cons px_int pxa_nil)) (show BlkOk ["box", "named", "which", "wrong", "k", "at", "args", "told", "walkers", "asked"] (defScope (top 62)) _ [("k", 4)] from ⟨rfl, by decide +kernel, by decide +kernel, by decide +kernel, by decide +kernel⟩) (fun _ _ _ _ _ => (gx_name 4 sc46.nd)) (fun _ _ _ _ _ => pts_true) (fun _ _ _ _ _ => (px_call F.f27 hr takes0 (pxa_cons (px_var 0) (pxa_cons (px_lst (pxa_cons px_int (pxa_cons px_int (pxa_cons (px_un un_neg s_neg px_int) (pxa_cons px_non (pxa_cons px_bl (pxa_cons px_str (pxa_cons (px_tup (pxa_cons px_int (pxa_cons px_int pxa_nil))) (pxa_cons (px_lst (pxa_cons px_int pxa_nil)) pxa_nil))))))))) pxa_nil)))))
    (sx_cons (sx_expr (px_append (px_var 3) (px_call F.f27 hr (takes_of rfl rfl rfl rfl) (pxa_cons (px_var 0) (pxa_cons (px_ifExp (pxt_cmp (o_eq hr) s_eq (px_var 2) px_int rfl) (px_lst (pxa_cons (px_tup (pxa_cons px_int (pxa_cons px_int pxa_nil))) (pxa_cons (px_tup (pxa_cons px_int (pxa_cons px_int pxa_nil))) (pxa_cons (px_tup (pxa_cons px_int (pxa_cons px_int pxa_nil))) (pxa_cons (px_tup (pxa_cons (px_un un_neg s_neg px_int) (pxa_cons px_int pxa_nil))) (pxa_cons (px_tup (pxa_cons px_int (pxa_cons px_int pxa_nil))) (pxa_cons px_int (pxa_cons px_non (pxa_cons px_str (pxa_cons (px_lst (pxa_cons px_int (pxa_cons px_int pxa_nil))) (pxa_cons (px_tup (pxa_cons px_int (pxa_cons px_int pxa_nil))) (pxa_cons px_dnew pxa_nil)))))))))))) (px_lst (pxa_cons px_int (pxa_cons (px_un un_neg s_neg px_int) (pxa_cons px_non (pxa_cons px_bl (pxa_cons px_str (pxa_cons (px_tup (pxa_cons px_int (pxa_cons px_int pxa_nil))) (pxa_cons (px_lst (pxa_cons px_int pxa_nil)) (pxa_cons px_dnew pxa_nil)))))))))) pxa_nil)))))
    (sx_cons (sx_for PassesOwn.leaving rfl (xi_range1 G.n_range (pxa_cons px_int pxa_nil)) (gx_name 5 sc46.nd) (sx_cons (sx_set 6 sc46.nd (px_lst (pxa_cons (px_op o_add s_add px_int (px_call F.f26 hr (takes_of rfl rfl rfl rfl) (pxa_cons (px_var 0) (pxa_cons px_int pxa_nil)))) (pxa_cons (px_op o_add s_add px_int (px_call F.f26 hr (takes_of rfl rfl rfl rfl) (pxa_cons (px_var 0) (pxa_cons px_int pxa_nil)))) (pxa_cons px_int (pxa_cons (px_ifExp (pxt_cmp (o_eq hr) s_eq (px_var 2) px_int rfl) (px_tup (pxa_cons px_int (pxa_cons px_int pxa_nil))) px_int) pxa_nil))))))
    (sx_cons (sx_setIx (o_setIx hr) s_setIx (px_ix (o_ix hr) s_ix (px_var 3) (px_var 5)) (px_var 6) (px_var 5))
    (sx_cons (sx_if (pxt_cmp (o_eq hr) s_eq (px_call F.f26 hr (takes_of rfl rfl rfl rfl) (pxa_cons (px_var 0) (pxa_cons px_int pxa_nil))) px_int rfl) (sx_cons (sx_set 6 sc46.nd (px_op o_add s_add (px_slice (px_var 6) pxo_none (pxo_some (px_op o_add s_add (px_var 5) px_int))) (px_slice (px_var 3) (pxo_some (px_op o_add s_add (px_var 5) px_int)) pxo_none)))
    sx_nil) sx_nil)
    (sx_cons (sx_set 7 sc46.nd (px_call F.f45 hr (takes_of rfl rfl rfl rfl) (pxa_cons (px_var 2) (pxa_cons (px_var 6) (pxa_cons (px_var 1) pxa_nil)))))
    (sx_cons (sx_if (pxt_w (pxw_or (pxt_cmp (o_ne hr) s_ne (px_ix (o_ix hr) s_ix (px_var 7) px_int) (px_ix (o_ix hr) s_ix (px_lst (pxa_cons px_str (pxa_cons px_str (pxa_cons px_str (pxa_cons (px_ifExp (pxt_cmp (o_eq hr) s_eq (px_var 2) px_int rfl) px_str px_str) pxa_nil))))) (px_var 5)) rfl) (pxw_one (pxt_not (pxt_val (px_call F.f37 hr (takes_of rfl rfl rfl rfl) (pxa_cons (px_var 7) (pxa_cons (px_ix (o_ix hr) s_ix (px_var 7) px_int) (pxa_cons (px_ix (o_ix hr) s_ix (px_var 3) (px_var 5)) pxa_nil))))))))) (sx_cons (sx_ret px_bl)
    sx_nil) sx_nil)
    (sx_cons (sx_set 1 sc46.nd (px_not (px_var 1)))
    sx_nil)))))))
    (sx_cons (sx_set 8 sc46.nd (px_op o_add s_add px_int (px_call F.f26 hr (takes_of rfl rfl rfl rfl) (pxa_cons (px_var 0) (pxa_cons px_int pxa_nil)))))
    (sx_cons (sx_set 9 sc46.nd (px_op o_add s_add (px_op o_add s_add (px_var 8) px_int) (px_call F.f26 hr (takes_of rfl rfl rfl rfl) (pxa_cons (px_var 0) (pxa_cons (px_op op_sub s_sub px_int (px_var 8)) pxa_nil)))))
    (sx_cons (sx_if (pxt_not (pxt_val (px_call F.f36 hr (takes_of rfl rfl rfl rfl) (pxa_cons (px_call F.f45 hr (takes_of rfl rfl rfl rfl) (pxa_cons (px_var 2) (pxa_cons (px_lst (pxa_cons (px_op o_add s_add px_int (px_call F.f26 hr (takes_of rfl rfl rfl rfl) (pxa_cons (px_var 0) (pxa_cons px_int pxa_nil)))) (pxa_cons (px_var 8) (pxa_cons (px_var 9) (pxa_cons px_non pxa_nil))))) (pxa_cons (px_var 1) pxa_nil)))) (pxa_cons (px_lst (pxa_cons px_str (pxa_cons (px_var 9) pxa_nil))) pxa_nil))))) (sx_cons (sx_ret px_bl)
    sx_nil) sx_nil)
    sx_nil)))))))
    (sx_cons (sx_ret px_bl)
    sx_nil))
theorem sc47 : FnScope ["roads", "walkers", "asked", "base", "whole"] ["roads", "walkers", "asked", "base"] (defScope (top 63)) := ⟨rfl, rfl, rfl, by decide +kernel, rfl, by decide +kernel, by decide +kernel⟩
theorem d47 (G : Gs w K mg base ad) (F : Fs w K mg base ad (n + 2) C) (S : Fun K "_law_ratio_by" "_law_ratio_by" (top 63) (ad.f 47) (ad.d 47)) : FnOk P w K mg base (L2.CX P w) (n + 3) (ad.f 47) (ad.d 47) ["roads", "walkers", "asked", "base"] (spI K (cxl ad) 4 (runB C (fd47 fu))) :=
  body_ok (k := n + 2) (fd47 fu) S sc47 rfl (by decide) fun cdv A outer s0 H E hr =>
    (sx_cons (sx_set 4 sc47.nd (px_op op_mulW s_mul (px_var 0) (px_var 2)))
    (sx_cons (sx_ret (px_call F.f30 hr (takes_of rfl rfl rfl rfl) (pxa_cons (px_tup (pxa_cons px_int (pxa_cons px_int pxa_nil))) (pxa_cons (px_call F.f32 hr (takes_of rfl rfl rfl rfl) (pxa_cons (px_tup (pxa_cons px_int (pxa_cons px_int pxa_nil))) (pxa_cons (px_call F.f33 hr (takes_of rfl rfl rfl rfl) (pxa_cons (px_call F.f35 hr (takes_of rfl rfl rfl rfl) (pxa_cons (px_var 3) (pxa_cons (px_var 4) pxa_nil))) (pxa_cons (px_call F.f31 hr (takes_of rfl rfl rfl rfl) (pxa_cons (px_call F.f35 hr (takes_of rfl rfl rfl rfl) (pxa_cons (px_var 3) (pxa_cons (px_var 1) pxa_nil))) (pxa_cons (px_tup (pxa_cons px_int (pxa_cons px_int pxa_nil))) pxa_nil))) pxa_nil))) pxa_nil))) pxa_nil))))
    sx_nil))
theorem sc48 : FnScope ["roads", "walkers", "asked", "bottom", "value", "here", "more", "other"] ["roads", "walkers", "asked", "bottom", "value"] (defScope (top 64)) := ⟨rfl, rfl, rfl, by decide +kernel, rfl, by decide +kernel, by decide +kernel⟩
theorem d48 (G : Gs w K mg base ad) (F : Fs w K mg base ad (n + 2) C) (S : Fun K "_law_is_best" "_law_is_best" (top 64) (ad.f 48) (ad.d 48)) : FnOk P w K mg base (L2.CX P w) (n + 3) (ad.f 48) (ad.d 48) ["roads", "walkers", "asked", "bottom", "value"] (spI K (cxl ad) 5 (runB C (fd48 fu))) :=
  body_ok (k := n + 2) (fd48 fu) S sc48 rfl (by decide) fun cdv A outer s0 H E hr =>
    (sx_cons (sx_if (pxt_w (pxw_or (pxt_not (pxt_val (px_call F.f39 hr (takes_of rfl rfl rfl rfl) (pxa_cons (px_var 4) pxa_nil)))) (pxw_or (pxt_not (pxt_val (px_call F.f34 hr (takes_of rfl rfl rfl rfl) (pxa_cons (px_tup (pxa_cons px_int (pxa_cons px_int pxa_nil))) (pxa_cons (px_var 4) pxa_nil))))) (pxw_one (pxt_cmp (o_ne hr) s_ne (px_op op_mod s_mod (px_callTy call_int1 c_int G.n_int (pxa_cons (px_op op_mulW s_mul (px_ix (o_ix hr) s_ix (px_var 4) px_int) (px_var 3)) pxa_nil)) (px_ix (o_ix hr) s_ix (px_var 4) px_int)) px_int rfl))))) (sx_cons (sx_ret px_bl)
    sx_nil) sx_nil)
    (sx_cons (sx_set 5 sc48.nd (px_call F.f47 hr (takes_of rfl rfl rfl rfl) (pxa_cons (px_var 0) (pxa_cons (px_var 1) (pxa_cons (px_var 2) (pxa_cons (px_var 4) pxa_nil))))))
    (sx_cons (sx_for PassesOwn.leaving rfl (xi_seq (px_tup (pxa_cons (px_tup (pxa_cons (px_un un_neg s_neg px_int) (pxa_cons (px_var 3) pxa_nil))) (pxa_cons (px_tup (pxa_cons px_int (pxa_cons (px_var 3) pxa_nil))) pxa_nil)))) (gx_name 6 sc48.nd) (sx_cons (sx_set 7 sc48.nd (px_call F.f30 hr (takes_of rfl rfl rfl rfl) (pxa_cons (px_var 4) (pxa_cons (px_call F.f29 hr (takes_of rfl rfl rfl rfl) (pxa_cons (px_ix (o_ix hr) s_ix (px_var 6) px_int) (pxa_cons (px_ix (o_ix hr) s_ix (px_var 6) px_int) pxa_nil))) pxa_nil))))
    (sx_cons (sx_if (pxt_w (pxw_and (pxt_val (px_call F.f34 hr (takes_of rfl rfl rfl rfl) (pxa_cons (px_tup (pxa_cons px_int (pxa_cons px_int pxa_nil))) (pxa_cons (px_var 7) pxa_nil)))) (pxw_one (pxt_val (px_call F.f34 hr (takes_of rfl rfl rfl rfl) (pxa_cons (px_call F.f47 hr (takes_of rfl rfl rfl rfl) (pxa_cons (px_var 0) (pxa_cons (px_var 1) (pxa_cons (px_var 2) (pxa_cons (px_var 7) pxa_nil))))) (pxa_cons (px_var 5) pxa_nil))))))) (sx_cons (sx_ret px_bl)
    sx_nil) sx_nil)
    sx_nil)))
    (sx_cons (sx_ret px_bl)
    sx_nil))))
theorem sc49 : FnScope ["script", "k", "box", "named", "turn", "roads", "walkers", "asked", "bottom", "at", "base", "due", "told"] ["script"] (defScope (top 65)) := ⟨rfl, rfl, rfl, by decide +kernel, rfl, by decide +kernel, by decide +kernel⟩
theorem d49 (G : Gs w K mg base ad) (F : Fs w K mg base ad (n + 2) C) (S : Fun K "law" "law" (top 65) (ad.f 49) (ad.d 49)) : FnOk P w K mg base (L2.CX P w) (n + 3) (ad.f 49) (ad.d 49) ["script"] (spI K (cxl ad) 1 (runB C (fd49 fu))) :=
  body_ok (k := n + 2) (fd49 fu) S sc49 rfl (by decide) fun cdv A outer s0 H E hr =>
    (sx_cons (sx_for PassesOwn.leaving rfl (xi_range1 G.n_range (pxa_cons px_int pxa_nil)) (gx_name 1 sc49.nd) (sx_cons (sx_set 2 sc49.nd (px_call F.f25 hr (takes_of rfl rfl rfl rfl) (pxa_cons (px_call F.f28 hr (takes_of rfl rfl rfl rfl) (pxa_cons (px_var 0) (pxa_cons (px_var 1) pxa_nil))) pxa_nil)))
    (sx_cons (sx_set 3 sc49.nd (px_cmp (o_eq hr) s_eq (px_call F.f26 hr (takes_of rfl rfl rfl rfl) (pxa_cons (px_var 2) (pxa_cons px_int pxa_nil))) px_int rfl))
    (sx_cons (sx_for PassesOwn.leaving rfl (xi_range1 G.n_range (pxa_cons px_int pxa_nil)) (gx_name 4 sc49.nd) (sx_cons (sx_par 5 6 rfl sc49.nd (pxa_cons (px_op o_add s_add px_int (px_call F.f26 hr (takes_of rfl rfl rfl rfl) (pxa_cons (px_var 2) (pxa_cons px_int pxa_nil)))) (pxa_cons (px_op o_add s_add px_int (px_call F.f26 hr (takes_of rfl rfl rfl rfl) (pxa_cons (px_var 2) (pxa_cons px_int pxa_nil)))) pxa_nil)))
    (sx_cons (sx_par 7 8 rfl sc49.nd (pxa_cons (px_op o_add s_add px_int (px_call F.f26 hr (takes_of rfl rfl rfl rfl) (pxa_cons (px_var 2) (pxa_cons (px_var 6) pxa_nil)))) (pxa_cons (px_call F.f27 hr (takes_of rfl rfl rfl rfl) (pxa_cons (px_var 2) (pxa_cons (px_lst (pxa_cons px_int (pxa_cons px_int (pxa_cons px_int (pxa_cons px_int (pxa_cons px_int (pxa_cons (px_op op_pow s_pow px_int px_int) (pxa_cons (px_op op_pow s_pow px_int px_int) pxa_nil)))))))) pxa_nil))) pxa_nil)))
    (sx_cons (sx_set 9 sc49.nd (px_call F.f44 hr (takes_of rfl rfl rfl rfl) (pxa_cons (px_var 5) (pxa_cons (px_var 6) (pxa_cons (px_var 7) (pxa_cons (px_var 8) pxa_nil))))))
    (sx_cons (sx_if (pxt_not (pxt_val (px_call F.f36 hr (takes_of rfl rfl rfl rfl) (pxa_cons (px_call F.f45 hr (takes_of rfl rfl rfl rfl) (pxa_cons px_int (pxa_cons (px_lst (pxa_cons (px_var 5) (pxa_cons (px_var 6) (pxa_cons (px_var 7) (pxa_cons (px_var 8) pxa_nil))))) (pxa_cons (px_var 3) pxa_nil)))) (pxa_cons (px_lst (pxa_cons px_str (pxa_cons (px_tup (pxa_cons (px_call F.f29 hr (takes_of rfl rfl rfl rfl) (pxa_cons (px_var 9) (pxa_cons (px_var 8) pxa_nil))) (pxa_cons (px_call F.f29 hr (takes_of rfl rfl rfl rfl) (pxa_cons (px_op o_add s_add (px_var 9) px_int) (pxa_cons (px_var 8) pxa_nil))) pxa_nil))) pxa_nil))) pxa_nil))))) (sx_cons (sx_ret px_bl)
    sx_nil) sx_nil)
    (sx_cons (sx_set 10 sc49.nd (px_call F.f27 hr (takes_of rfl rfl rfl rfl) (pxa_cons (px_var 2) (pxa_cons (px_lst (pxa_cons (px_tup (pxa_cons px_int (pxa_cons px_int pxa_nil))) (pxa_cons (px_tup (pxa_cons px_int (pxa_cons px_int pxa_nil))) (pxa_cons (px_tup (pxa_cons px_int (pxa_cons px_int pxa_nil))) (pxa_cons (px_tup (pxa_cons px_int (pxa_cons px_int pxa_nil))) (pxa_cons (px_call F.f30 hr (takes_of rfl rfl rfl rfl) (pxa_cons (px_tup (pxa_cons px_int (pxa_cons px_int pxa_nil))) (pxa_cons (px_call F.f40 hr (takes_of rfl rfl rfl rfl) (pxa_cons (px_var 2) pxa_nil)) pxa_nil))) (pxa_cons (px_tup (pxa_cons (px_op o_add s_add (px_op op_pow s_pow px_int px_int) px_int) (pxa_cons (px_op op_pow s_pow px_int px_int) pxa_nil))) pxa_nil))))))) pxa_nil))))
    (sx_cons (sx_set 11 sc49.nd (px_call F.f47 hr (takes_of rfl rfl rfl rfl) (pxa_cons (px_var 5) (pxa_cons (px_var 6) (pxa_cons (px_var 7) (pxa_cons (px_var 10) pxa_nil))))))
    (sx_cons (sx_if (pxt_w (pxw_or (pxt_not (pxt_val (px_call F.f36 hr (takes_of rfl rfl rfl rfl) (pxa_cons (px_call F.f45 hr (takes_of rfl rfl rfl rfl) (pxa_cons px_int (pxa_cons (px_lst (pxa_cons (px_var 5) (pxa_cons (px_var 6) (pxa_cons (px_var 7) (pxa_cons (px_var 10) pxa_nil))))) (pxa_cons (px_not (px_var 3)) pxa_nil)))) (pxa_cons (px_lst (pxa_cons px_str (pxa_cons (px_var 11) pxa_nil))) pxa_nil))))) (pxw_one (pxt_not (pxt_val (px_call F.f42 hr (takes_of rfl rfl rfl rfl) (pxa_cons (px_var 5) (pxa_cons (px_var 6) (pxa_cons (px_var 7) (pxa_cons (px_var 11) pxa_nil)))))))))) (sx_cons (sx_ret px_bl)
    sx_nil) sx_nil)
    (sx_cons (sx_par 12 8 rfl sc49.nd (pxa_cons (px_call F.f45 hr (takes_of rfl rfl rfl rfl) (pxa_cons px_int (pxa_cons (px_lst (pxa_cons (px_var 5) (pxa_cons (px_var 6) (pxa_cons (px_var 7) (pxa_cons (px_callB (o_min rfl) c_min G.n_min (pxa_cons (px_var 8) (pxa_cons (px_op op_pow s_pow px_int px_int) pxa_nil))) pxa_nil))))) (pxa_cons (px_var 3) pxa_nil)))) (pxa_cons (px_callB (o_min rfl) c_min G.n_min (pxa_cons (px_var 8) (pxa_cons (px_op op_pow s_pow px_int px_int) pxa_nil))) pxa_nil)))
    (sx_cons (sx_if (pxt_w (pxw_or (pxt_not (pxt_val (px_call F.f36 hr (takes_of rfl rfl rfl rfl) (pxa_cons (px_call F.f45 hr (takes_of rfl rfl rfl rfl) (pxa_cons px_int (pxa_cons (px_lst (pxa_cons (px_var 5) (pxa_cons (px_var 6) (pxa_cons (px_var 7) (pxa_cons (px_var 8) pxa_nil))))) (pxa_cons (px_not (px_var 3)) pxa_nil)))) (pxa_cons (px_var 12) pxa_nil))))) (pxw_one (pxt_cmp (o_ne hr) s_ne (px_ix (o_ix hr) s_ix (px_var 12) px_int) px_str rfl)))) (sx_cons (sx_ret px_bl)
    sx_nil) sx_nil)
    (sx_cons (sx_if (pxt_w (pxw_or (pxt_w (pxw_and (pxt_cmp op_ge s_ge (px_var 6) (px_op op_mulW s_mul (px_var 5) (px_var 7)) rfl) (pxw_one (pxt_cmp o_isNot s_isNot (px_ix (o_ix hr) s_ix (px_var 12) px_int) px_non rfl)))) (pxw_one (pxt_w (pxw_and (pxt_cmp op_lt s_lt (px_var 6) (px_op op_mulW s_mul (px_var 5) (px_var 7)) rfl) (pxw_one (pxt_not (pxt_val (px_call F.f48 hr (takes_of rfl rfl rfl rfl) (pxa_cons (px_var 5) (pxa_cons (px_var 6) (pxa_cons (px_var 7) (pxa_cons (px_var 8) (pxa_cons (px_ix (o_ix hr) s_ix (px_var 12) px_int) pxa_nil)))))))))))))) (sx_cons (sx_ret px_bl)
    sx_nil) sx_nil)
    (sx_cons (sx_set 3 sc49.nd (px_not (px_var 3)))
    sx_nil))))))))))))
    (sx_cons (sx_if (pxt_not (pxt_val (px_call F.f46 hr (takes_of rfl rfl rfl rfl) (pxa_cons (px_var 2) (pxa_cons (px_var 3) pxa_nil))))) (sx_cons (sx_ret px_bl)
    sx_nil) sx_nil)
    sx_nil)))))
    (sx_cons (sx_ret px_bl)
    sx_nil))
/-- all defs keep what the small language runs -/
theorem all_ok (S : Ss_ K mg ad) (G : Gs w K mg base ad) : ∀ n : Nat, Fs w K mg base ad (n + 2) (callN (pr fu) n)
  | 0 => ⟨⟨callN_zero, S.f0.1, S.f0.2.1, S.f0.2.2.1⟩, ⟨callN_zero, S.f1.1, S.f1.2.1, S.f1.2.2.1⟩, ⟨callN_zero, S.f2.1, S.f2.2.1, S.f2.2.2.1⟩, ⟨callN_zero, S.f3.1, S.f3.2.1, S.f3.2.2.1⟩, ⟨callN_zero, S.f4.1, S.f4.2.1, S.f4.2.2.1⟩, ⟨callN_zero, S.f5.1, S.f5.2.1, S.f5.2.2.1⟩, ⟨callN_zero, S.f6.1, S.f6.2.1, S.f6.2.2.1⟩, ⟨callN_zero, S.f7.1, S.f7.2.1, S.f7.2.2.1⟩, ⟨callN_zero, S.f8.1, S.f8.2.1, S.f8.2.2.1⟩, ⟨callN_zero, S.f9.1, S.f9.2.1, S.f9.2.2.1⟩, ⟨callN_zero, S.f10.1, S.f10.2.1, S.f10.2.2.1⟩, ⟨callN_zero, S.f11.1, S.f11.2.1, S.f11.2.2.1⟩, ⟨callN_zero, S.f12.1, S.f12.2.1, S.f12.2.2.1⟩, ⟨callN_zero, S.f13.1, S.f13.2.1, S.f13.2.2.1⟩, ⟨callN_zero, S.f14.1, S.f14.2.1, S.f14.2.2.1⟩, ⟨callN_zero, S.f15.1, S.f15.2.1, S.f15.2.2.1⟩, ⟨callN_zero, S.f16.1, S.f16.2.1, S.f16.2.2.1⟩, ⟨callN_zero, S.f17.1, S.f17.2.1, S.f17.2.2.1⟩, ⟨callN_zero, S.f18.1, S.f18.2.1, S.f18.2.2.1⟩, ⟨callN_zero, S.f19.1, S.f19.2.1, S.f19.2.2.1⟩, ⟨callN_zero, S.f20.1, S.f20.2.1, S.f20.2.2.1⟩, ⟨callN_zero, S.f21.1, S.f21.2.1, S.f21.2.2.1⟩, ⟨callN_zero, S.f22.1, S.f22.2.1, S.f22.2.2.1⟩, ⟨callN_zero, S.f23.1, S.f23.2.1, S.f23.2.2.1⟩, ⟨callN_zero, S.f24.1, S.f24.2.1, S.f24.2.2.1⟩, ⟨callN_zero, S.f25.1, S.f25.2.1, S.f25.2.2.1⟩, ⟨callN_zero, S.f26.1, S.f26.2.1, S.f26.2.2.1⟩, ⟨callN_zero, S.f27.1, S.f27.2.1, S.f27.2.2.1⟩, ⟨callN_zero, S.f28.1, S.f28.2.1, S.f28.2.2.1⟩, ⟨callN_zero, S.f29.1, S.f29.2.1, S.f29.2.2.1⟩, ⟨callN_zero, S.f30.1, S.f30.2.1, S.f30.2.2.1⟩, ⟨callN_zero, S.f31.1, S.f31.2.1, S.f31.2.2.1⟩, ⟨callN_zero, S.f32.1, S.f32.2.1, S.f32.2.2.1⟩, ⟨callN_zero, S.f33.1, S.f33.2.1, S.f33.2.2.1⟩, ⟨callN_zero, S.f34.1, S.f34.2.1, S.f34.2.2.1⟩, ⟨callN_zero, S.f35.1, S.f35.2.1, S.f35.2.2.1⟩, ⟨callN_zero, S.f36.1, S.f36.2.1, S.f36.2.2.1⟩, ⟨callN_zero, S.f37.1, S.f37.2.1, S.f37.2.2.1⟩, ⟨callN_zero, S.f38.1, S.f38.2.1, S.f38.2.2.1⟩, ⟨callN_zero, S.f39.1, S.f39.2.1, S.f39.2.2.1⟩, ⟨callN_zero, S.f40.1, S.f40.2.1, S.f40.2.2.1⟩, ⟨callN_zero, S.f41.1, S.f41.2.1, S.f41.2.2.1⟩, ⟨callN_zero, S.f42.1, S.f42.2.1, S.f42.2.2.1⟩, ⟨callN_zero, S.f43.1, S.f43.2.1, S.f43.2.2.1⟩, ⟨callN_zero, S.f44.1, S.f44.2.1, S.f44.2.2.1⟩, ⟨callN_zero, S.f45.1, S.f45.2.1, S.f45.2.2.1⟩, ⟨callN_zero, S.f46.1, S.f46.2.1, S.f46.2.2.1⟩, ⟨callN_zero, S.f47.1, S.f47.2.1, S.f47.2.2.1⟩, ⟨callN_zero, S.f48.1, S.f48.2.1, S.f48.2.2.1⟩, ⟨callN_zero, S.f49.1, S.f49.2.1, S.f49.2.2.1⟩⟩
  | n + 1 => by
    have F := all_ok S G n
    exact ⟨⟨callN_succ (fd := fd0 fu) rfl (d0 G F S.f0.2.2.2), S.f0.1, S.f0.2.1, S.f0.2.2.1⟩, ⟨callN_succ (fd := fd1 fu) rfl (d1 G F S.f1.2.2.2), S.f1.1, S.f1.2.1, S.f1.2.2.1⟩, ⟨callN_succ (fd := fd2 fu) rfl (d2 G F S.f2.2.2.2), S.f2.1, S.f2.2.1, S.f2.2.2.1⟩, ⟨callN_succ (fd := fd3 fu) rfl (d3 G F S.f3.2.2.2), S.f3.1, S.f3.2.1, S.f3.2.2.1⟩, ⟨callN_succ (fd := fd4 fu) rfl (d4 G F S.f4.2.2.2), S.f4.1, S.f4.2.1, S.f4.2.2.1⟩, ⟨callN_succ (fd := fd5 fu) rfl (d5 G F S.f5.2.2.2), S.f5.1, S.f5.2.1, S.f5.2.2.1⟩, ⟨callN_succ (fd := fd6 fu) rfl (d6 G F S.f6.2.2.2), S.f6.1, S.f6.2.1, S.f6.2.2.1⟩, ⟨callN_succ (fd := fd7 fu) rfl (d7 G F S.f7.2.2.2), S.f7.1, S.f7.2.1, S.f7.2.2.1⟩, ⟨callN_succ (fd := fd8 fu) rfl (d8 G F S.f8.2.2.2), S.f8.1, S.f8.2.1, S.f8.2.2.1⟩, ⟨callN_succ (fd := fd9 fu) rfl (d9 G F S.f9.2.2.2), S.f9.1, S.f9.2.1, S.f9.2.2.1⟩, ⟨callN_succ (fd := fd10 fu) rfl (d10 G F S.f10.2.2.2), S.f10.1, S.f10.2.1, S.f10.2.2.1⟩, ⟨callN_succ (fd := fd11 fu) rfl (d11 G F S.f11.2.2.2), S.f11.1, S.f11.2.1, S.f11.2.2.1⟩, ⟨callN_succ (fd := fd12 fu) rfl (d12 G F S.f12.2.2.2), S.f12.1, S.f12.2.1, S.f12.2.2.1⟩, ⟨callN_succ (fd := fd13 fu) rfl (d13 G F S.f13.2.2.2), S.f13.1, S.f13.2.1, S.f13.2.2.1⟩, ⟨callN_succ (fd := fd14 fu) rfl (d14 G F S.f14.2.2.2), S.f14.1, S.f14.2.1, S.f14.2.2.1⟩, ⟨callN_succ (fd := fd15 fu) rfl (d15 G F S.f15.2.2.2), S.f15.1, S.f15.2.1, S.f15.2.2.1⟩, ⟨callN_succ (fd := fd16 fu) rfl (d16 G F S.f16.2.2.2), S.f16.1, S.f16.2.1, S.f16.2.2.1⟩, ⟨callN_succ (fd := fd17 fu) rfl (d17 G F S.f17.2.2.2), S.f17.1, S.f17.2.1, S.f17.2.2.1⟩, ⟨callN_succ (fd := fd18 fu) rfl (d18 G F S.f18.2.2.2), S.f18.1, S.f18.2.1, S.f18.2.2.1⟩, ⟨callN_succ (fd := fd19 fu) rfl (d19 G F S.f19.2.2.2), S.f19.1, S.f19.2.1, S.f19.2.2.1⟩, ⟨callN_succ (fd := fd20 fu) rfl (d20 G F S.f20.2.2.2), S.f20.1, S.f20.2.1, S.f20.2.2.1⟩, ⟨callN_succ (fd := fd21 fu) rfl (d21 G F S.f21.2.2.2), S.f21.1, S.f21.2.1, S.f21.2.2.1⟩, ⟨callN_succ (fd := fd22 fu) rfl (d22 G F S.f22.2.2.2), S.f22.1, S.f22.2.1, S.f22.2.2.1⟩, ⟨callN_succ (fd := fd23 fu) rfl (d23 G F S.f23.2.2.2), S.f23.1, S.f23.2.1, S.f23.2.2.1⟩, ⟨callN_succ (fd := fd24 fu) rfl (d24 G F S.f24.2.2.2), S.f24.1, S.f24.2.1, S.f24.2.2.1⟩, ⟨callN_succ (fd := fd25 fu) rfl (d25 G F S.f25.2.2.2), S.f25.1, S.f25.2.1, S.f25.2.2.1⟩, ⟨callN_succ (fd := fd26 fu) rfl (d26 G F S.f26.2.2.2), S.f26.1, S.f26.2.1, S.f26.2.2.1⟩, ⟨callN_succ (fd := fd27 fu) rfl (d27 G F S.f27.2.2.2), S.f27.1, S.f27.2.1, S.f27.2.2.1⟩, ⟨callN_succ (fd := fd28 fu) rfl (d28 G F S.f28.2.2.2), S.f28.1, S.f28.2.1, S.f28.2.2.1⟩, ⟨callN_succ (fd := fd29 fu) rfl (d29 G F S.f29.2.2.2), S.f29.1, S.f29.2.1, S.f29.2.2.1⟩, ⟨callN_succ (fd := fd30 fu) rfl (d30 G F S.f30.2.2.2), S.f30.1, S.f30.2.1, S.f30.2.2.1⟩, ⟨callN_succ (fd := fd31 fu) rfl (d31 G F S.f31.2.2.2), S.f31.1, S.f31.2.1, S.f31.2.2.1⟩, ⟨callN_succ (fd := fd32 fu) rfl (d32 G F S.f32.2.2.2), S.f32.1, S.f32.2.1, S.f32.2.2.1⟩, ⟨callN_succ (fd := fd33 fu) rfl (d33 G F S.f33.2.2.2), S.f33.1, S.f33.2.1, S.f33.2.2.1⟩, ⟨callN_succ (fd := fd34 fu) rfl (d34 G F S.f34.2.2.2), S.f34.1, S.f34.2.1, S.f34.2.2.1⟩, ⟨callN_succ (fd := fd35 fu) rfl (d35 G F S.f35.2.2.2), S.f35.1, S.f35.2.1, S.f35.2.2.1⟩, ⟨callN_succ (fd := fd36 fu) rfl (d36 G F S.f36.2.2.2), S.f36.1, S.f36.2.1, S.f36.2.2.1⟩, ⟨callN_succ (fd := fd37 fu) rfl (d37 G F S.f37.2.2.2), S.f37.1, S.f37.2.1, S.f37.2.2.1⟩, ⟨callN_succ (fd := fd38 fu) rfl (d38 G F S.f38.2.2.2), S.f38.1, S.f38.2.1, S.f38.2.2.1⟩, ⟨callN_succ (fd := fd39 fu) rfl (d39 G F S.f39.2.2.2), S.f39.1, S.f39.2.1, S.f39.2.2.1⟩, ⟨callN_succ (fd := fd40 fu) rfl (d40 G F S.f40.2.2.2), S.f40.1, S.f40.2.1, S.f40.2.2.1⟩, ⟨callN_succ (fd := fd41 fu) rfl (d41 G F S.f41.2.2.2), S.f41.1, S.f41.2.1, S.f41.2.2.1⟩, ⟨callN_succ (fd := fd42 fu) rfl (d42 G F S.f42.2.2.2), S.f42.1, S.f42.2.1, S.f42.2.2.1⟩, ⟨callN_succ (fd := fd43 fu) rfl (d43 G F S.f43.2.2.2), S.f43.1, S.f43.2.1, S.f43.2.2.1⟩, ⟨callN_succ (fd := fd44 fu) rfl (d44 G F S.f44.2.2.2), S.f44.1, S.f44.2.1, S.f44.2.2.1⟩, ⟨callN_succ (fd := fd45 fu) rfl (d45 G F S.f45.2.2.2), S.f45.1, S.f45.2.1, S.f45.2.2.1⟩, ⟨callN_succ (fd := fd46 fu) rfl (d46 G F S.f46.2.2.2), S.f46.1, S.f46.2.1, S.f46.2.2.1⟩, ⟨callN_succ (fd := fd47 fu) rfl (d47 G F S.f47.2.2.2), S.f47.1, S.f47.2.1, S.f47.2.2.1⟩, ⟨callN_succ (fd := fd48 fu) rfl (d48 G F S.f48.2.2.2), S.f48.1, S.f48.2.1, S.f48.2.2.1⟩, ⟨callN_succ (fd := fd49 fu) rfl (d49 G F S.f49.2.2.2), S.f49.1, S.f49.2.1, S.f49.2.2.1⟩⟩
end
def mkAd (fs : List Addr) (ds : List FuncData) (cs cis : List Addr) (cds : List FuncData) (z : FuncData) : Ad := ⟨fun i => fs.getD i 0, fun i => ds.getD i z, fun i => cs.getD i 0, fun i => cis.getD i 0, fun i => cds.getD i z⟩
theorem all_mk {w : World} {K : PySem.W.Frag} {h : Heap} {mg : Str → Option Value} {fa : Addr} {f0 : Addr} {od0 an0 : Option Addr} {sl0 : Array (Option Value)} {oc0 kV0 dc0 pm0 cd0 ct0 : Value} {f1 : Addr} {od1 an1 : Option Addr} {sl1 : Array (Option Value)} {oc1 kV1 dc1 pm1 cd1 ct1 : Value} {f2 : Addr} {od2 an2 : Option Addr} {sl2 : Array (Option Value)} {oc2 kV2 dc2 pm2 cd2 ct2 : Value} {f3 : Addr} {od3 an3 : Option Addr} {sl3 : Array (Option Value)} {oc3 kV3 dc3 pm3 cd3 ct3 : Value} {f4 : Addr} {od4 an4 : Option Addr} {sl4 : Array (Option Value)} {oc4 kV4 dc4 pm4 cd4 ct4 : Value} {f5 : Addr} {od5 an5 : Option Addr} {sl5 : Array (Option Value)} {oc5 kV5 dc5 pm5 cd5 ct5 : Value} {f6 : Addr} {od6 an6 : Option Addr} {sl6 : Array (Option Value)} {oc6 kV6 dc6 pm6 cd6 ct6 : Value} {f7 : Addr} {od7 an7 : Option Addr} {sl7 : Array (Option Value)} {oc7 kV7 dc7 pm7 cd7 ct7 : Value} {f8 : Addr} {od8 an8 : Option Addr} {sl8 : Array (Option Value)} {oc8 kV8 dc8 pm8 cd8 ct8 : Value} {f9 : Addr} {od9 an9 : Option Addr} {sl9 : Array (Option Value)} {oc9 kV9 dc9 pm9 cd9 ct9 : Value} {f10 : Addr} {od10 an10 : Option Addr} {sl10 : Array (Option Value)} {oc10 kV10 dc10 pm10 cd10 ct10 : Value} {f11 : Addr} {od11 an11 : Option Addr} {sl11 : Array (Option Value)} {oc11 kV11 dc11 pm11 cd11 ct11 : Value} {f12 : Addr} {od12 an12 : Option Addr} {sl12 : Array (Option Value)} {oc12 kV12 dc12 pm12 cd12 ct12 : Value} {f13 : Addr} {od13 an13 : Option Addr} {sl13 : Array (Option Value)} {oc13 kV13 dc13 pm13 cd13 ct13 : Value} {f14 : Addr} {od14 an14 : Option Addr} {sl14 : Array (Option Value)} {oc14 kV14 dc14 pm14 cd14 ct14 : Value} {f15 : Addr} {od15 an15 : Option Addr} {sl15 : Array (Option Value)} {oc15 kV15 dc15 pm15 cd15 ct15 : Value} {f16 : Addr} {od16 an16 : Option Addr} {sl16 : Array (Option Value)} {oc16 kV16 dc16 pm16 cd16 ct16 : Value} {f17 : Addr} {od17 an17 : Option Addr} {sl17 : Array (Option Value)} {oc17 kV17 dc17 pm17 cd17 ct17 : Value} {f18 : Addr} {od18 an18 : Option Addr} {sl18 : Array (Option Value)} {oc18 kV18 dc18 pm18 cd18 ct18 : Value} {f19 : Addr} {od19 an19 : Option Addr} {sl19 : Array (Option Value)} {oc19 kV19 dc19 pm19 cd19 ct19 : Value} {f20 : Addr} {od20 an20 : Option Addr} {sl20 : Array (Option Value)} {oc20 kV20 dc20 pm20 cd20 ct20 : Value} {f21 : Addr} {od21 an21 : Option Addr} {sl21 : Array (Option Value)} {oc21 kV21 dc21 pm21 cd21 ct21 : Value} {f22 : Addr} {od22 an22 : Option Addr} {sl22 : Array (Option Value)} {oc22 kV22 dc22 pm22 cd22 ct22 : Value} {f23 : Addr} {od23 an23 : Option Addr} {sl23 : Array (Option Value)} {oc23 kV23 dc23 pm23 cd23 ct23 : Value} {f24 : Addr} {od24 an24 : Option Addr} {sl24 : Array (Option Value)} {oc24 kV24 dc24 pm24 cd24 ct24 : Value} {f25 : Addr} {od25 an25 : Option Addr} {sl25 : Array (Option Value)} {oc25 kV25 dc25 pm25 cd25 ct25 : Value} {f26 : Addr} {od26 an26 : Option Addr} {sl26 : Array (Option Value)} {oc26 kV26 dc26 pm26 cd26 ct26 : Value} {f27 : Addr} {od27 an27 : Option Addr} {sl27 : Array (Option Value)} {oc27 kV27 dc27 pm27 cd27 ct27 : Value} {f28 : Addr} {od28 an28 : Option Addr} {sl28 : Array (Option Value)} {oc28 kV28 dc28 pm28 cd28 ct28 : Value} {f29 : Addr} {od29 an29 : Option Addr} {sl29 : Array (Option Value)} {oc29 kV29 dc29 pm29 cd29 ct29 : Value} {f30 : Addr} {od30 an30 : Option Addr} {sl30 : Array (Option Value)} {oc30 kV30 dc30 pm30 cd30 ct30 : Value} {f31 : Addr} {od31 an31 : Option Addr} {sl31 : Array (Option Value)} {oc31 kV31 dc31 pm31 cd31 ct31 : Value} {f32 : Addr} {od32 an32 : Option Addr} {sl32 : Array (Option Value)} {oc32 kV32 dc32 pm32 cd32 ct32 : Value} {f33 : Addr} {od33 an33 : Option Addr} {sl33 : Array (Option Value)} {oc33 kV33 dc33 pm33 cd33 ct33 : Value} {f34 : Addr} {od34 an34 : Option Addr} {sl34 : Array (Option Value)} {oc34 kV34 dc34 pm34 cd34 ct34 : Value} {f35 : Addr} {od35 an35 : Option Addr} {sl35 : Array (Option Value)} {oc35 kV35 dc35 pm35 cd35 ct35 : Value} {f36 : Addr} {od36 an36 : Option Addr} {sl36 : Array (Option Value)} {oc36 kV36 dc36 pm36 cd36 ct36 : Value} {f37 : Addr} {od37 an37 : Option Addr} {sl37 : Array (Option Value)} {oc37 kV37 dc37 pm37 cd37 ct37 : Value} {f38 : Addr} {od38 an38 : Option Addr} {sl38 : Array (Option Value)} {oc38 kV38 dc38 pm38 cd38 ct38 : Value} {f39 : Addr} {od39 an39 : Option Addr} {sl39 : Array (Option Value)} {oc39 kV39 dc39 pm39 cd39 ct39 : Value} {f40 : Addr} {od40 an40 : Option Addr} {sl40 : Array (Option Value)} {oc40 kV40 dc40 pm40 cd40 ct40 : Value} {f41 : Addr} {od41 an41 : Option Addr} {sl41 : Array (Option Value)} {oc41 kV41 dc41 pm41 cd41 ct41 : Value} {f42 : Addr} {od42 an42 : Option Addr} {sl42 : Array (Option Value)} {oc42 kV42 dc42 pm42 cd42 ct42 : Value} {f43 : Addr} {od43 an43 : Option Addr} {sl43 : Array (Option Value)} {oc43 kV43 dc43 pm43 cd43 ct43 : Value} {f44 : Addr} {od44 an44 : Option Addr} {sl44 : Array (Option Value)} {oc44 kV44 dc44 pm44 cd44 ct44 : Value} {f45 : Addr} {od45 an45 : Option Addr} {sl45 : Array (Option Value)} {oc45 kV45 dc45 pm45 cd45 ct45 : Value} {f46 : Addr} {od46 an46 : Option Addr} {sl46 : Array (Option Value)} {oc46 kV46 dc46 pm46 cd46 ct46 : Value} {f47 : Addr} {od47 an47 : Option Addr} {sl47 : Array (Option Value)} {oc47 kV47 dc47 pm47 cd47 ct47 : Value} {f48 : Addr} {od48 an48 : Option Addr} {sl48 : Array (Option Value)} {oc48 kV48 dc48 pm48 cd48 ct48 : Value} {f49 : Addr} {od49 an49 : Option Addr} {sl49 : Array (Option Value)} {oc49 kV49 dc49 pm49 cd49 ct49 : Value} {ka_WHOLE : Addr} {kd_WHOLE : Option Addr} {kn_WHOLE : Nat} {ks_WHOLE : Array (Option Value)}{kt_WHOLE_0 : Tok} {kt_WHOLE_1 : Tok} {kt_MOST_TEAM : Tok} {ka_TWICE : Addr} {kd_TWICE : Option Addr} {kn_TWICE : Nat} {ks_TWICE : Array (Option Value)}{kt_TWICE_0 : Tok} {kt_TWICE_1 : Tok} {C0 fi0 N0 R0 : Addr} {nm0 q0 : Str} {bs0 sub0 : List Value} {sn0 : List Str} {ab0 : Bool} {co0 : Option Bool} {dd0 : Option Addr} {m0_0 m1_0 m2_0 m3_0 m5_0 : Option Value} {cod0 can0 : Option Addr} {csl0 : Array (Option Value)} {coc0 ckV0 cdc0 cpm0 ccd0 cct0 : Value} {C1 fi1 N1 R1 : Addr} {nm1 q1 : Str} {bs1 sub1 : List Value} {sn1 : List Str} {ab1 : Bool} {co1 : Option Bool} {dd1 : Option Addr} {m0_1 m1_1 m2_1 m3_1 m5_1 : Option Value} {cod1 can1 : Option Addr} {csl1 : Array (Option Value)} {coc1 ckV1 cdc1 cpm1 ccd1 cct1 : Value} {C2 fi2 N2 R2 : Addr} {nm2 q2 : Str} {bs2 sub2 : List Value} {sn2 : List Str} {ab2 : Bool} {co2 : Option Bool} {dd2 : Option Addr} {m0_2 m1_2 m2_2 m3_2 m5_2 : Option Value} {cod2 can2 : Option Addr} {csl2 : Array (Option Value)} {coc2 ckV2 cdc2 cpm2 ccd2 cct2 : Value} {C3 fi3 N3 R3 : Addr} {nm3 q3 : Str} {bs3 sub3 : List Value} {sn3 : List Str} {ab3 : Bool} {co3 : Option Bool} {dd3 : Option Addr} {m0_3 m1_3 m2_3 m3_3 m5_3 : Option Value} {cod3 can3 : Option Addr} {csl3 : Array (Option Value)} {coc3 ckV3 cdc3 cpm3 ccd3 cct3 : Value} {C4 fi4 N4 R4 : Addr} {nm4 q4 : Str} {bs4 sub4 : List Value} {sn4 : List Str} {ab4 : Bool} {co4 : Option Bool} {dd4 : Option Addr} {m0_4 m1_4 m2_4 m3_4 m5_4 : Option Value} {cod4 can4 : Option Addr} {csl4 : Array (Option Value)} {coc4 ckV4 cdc4 cpm4 ccd4 cct4 : Value} (X : K.In h) (G : h.Ns mainGlobals mg) (hfa : mg "law" = some (.ref fa))
    (a0 : PySem.W.nsIn K mainGlobals "is_integer" = some (some (.ref f0)))
    (l0 : K.lookup f0 = some ⟨oc0, od0, .func (PySem.W.fnOf "is_integer" "is_integer" (defArgs (top 9)) (defBody (top 9)) (defScope (top 9)) .none kV0 dc0 pm0 an0 cd0 ct0), sl0⟩)
    (c0 : PySem.W.codeIn K cd0 "is_integer" = true)
    (k0 : PySem.W.keepIn K (.ref f0) = true)
    (a1 : PySem.W.nsIn K mainGlobals "is_between" = some (some (.ref f1)))
    (l1 : K.lookup f1 = some ⟨oc1, od1, .func (PySem.W.fnOf "is_between" "is_between" (defArgs (top 10)) (defBody (top 10)) (defScope (top 10)) .none kV1 dc1 pm1 an1 cd1 ct1), sl1⟩)
    (c1 : PySem.W.codeIn K cd1 "is_between" = true)
    (k1 : PySem.W.keepIn K (.ref f1) = true)
    (a2 : PySem.W.nsIn K mainGlobals "is_tuple_of" = some (some (.ref f2)))
    (l2 : K.lookup f2 = some ⟨oc2, od2, .func (PySem.W.fnOf "is_tuple_of" "is_tuple_of" (defArgs (top 11)) (defBody (top 11)) (defScope (top 11)) .none kV2 dc2 pm2 an2 cd2 ct2), sl2⟩)
    (c2 : PySem.W.codeIn K cd2 "is_tuple_of" = true)
    (k2 : PySem.W.keepIn K (.ref f2) = true)
    (a3 : PySem.W.nsIn K mainGlobals "fraction_of" = some (some (.ref f3)))
    (l3 : K.lookup f3 = some ⟨oc3, od3, .func (PySem.W.fnOf "fraction_of" "fraction_of" (defArgs (top 14)) (defBody (top 14)) (defScope (top 14)) .none kV3 dc3 pm3 an3 cd3 ct3), sl3⟩)
    (c3 : PySem.W.codeIn K cd3 "fraction_of" = true)
    (k3 : PySem.W.keepIn K (.ref f3) = true)
    (a4 : PySem.W.nsIn K mainGlobals "is_fraction" = some (some (.ref f4)))
    (l4 : K.lookup f4 = some ⟨oc4, od4, .func (PySem.W.fnOf "is_fraction" "is_fraction" (defArgs (top 15)) (defBody (top 15)) (defScope (top 15)) .none kV4 dc4 pm4 an4 cd4 ct4), sl4⟩)
    (c4 : PySem.W.codeIn K cd4 "is_fraction" = true)
    (k4 : PySem.W.keepIn K (.ref f4) = true)
    (a5 : PySem.W.nsIn K mainGlobals "sum_of" = some (some (.ref f5)))
    (l5 : K.lookup f5 = some ⟨oc5, od5, .func (PySem.W.fnOf "sum_of" "sum_of" (defArgs (top 16)) (defBody (top 16)) (defScope (top 16)) .none kV5 dc5 pm5 an5 cd5 ct5), sl5⟩)
    (c5 : PySem.W.codeIn K cd5 "sum_of" = true)
    (k5 : PySem.W.keepIn K (.ref f5) = true)
    (a6 : PySem.W.nsIn K mainGlobals "difference_of" = some (some (.ref f6)))
    (l6 : K.lookup f6 = some ⟨oc6, od6, .func (PySem.W.fnOf "difference_of" "difference_of" (defArgs (top 17)) (defBody (top 17)) (defScope (top 17)) .none kV6 dc6 pm6 an6 cd6 ct6), sl6⟩)
    (c6 : PySem.W.codeIn K cd6 "difference_of" = true)
    (k6 : PySem.W.keepIn K (.ref f6) = true)
    (a7 : PySem.W.nsIn K mainGlobals "times_of" = some (some (.ref f7)))
    (l7 : K.lookup f7 = some ⟨oc7, od7, .func (PySem.W.fnOf "times_of" "times_of" (defArgs (top 18)) (defBody (top 18)) (defScope (top 18)) .none kV7 dc7 pm7 an7 cd7 ct7), sl7⟩)
    (c7 : PySem.W.codeIn K cd7 "times_of" = true)
    (k7 : PySem.W.keepIn K (.ref f7) = true)
    (a8 : PySem.W.nsIn K mainGlobals "over_of" = some (some (.ref f8)))
    (l8 : K.lookup f8 = some ⟨oc8, od8, .func (PySem.W.fnOf "over_of" "over_of" (defArgs (top 19)) (defBody (top 19)) (defScope (top 19)) .none kV8 dc8 pm8 an8 cd8 ct8), sl8⟩)
    (c8 : PySem.W.codeIn K cd8 "over_of" = true)
    (k8 : PySem.W.keepIn K (.ref f8) = true)
    (a9 : PySem.W.nsIn K mainGlobals "order_of" = some (some (.ref f9)))
    (l9 : K.lookup f9 = some ⟨oc9, od9, .func (PySem.W.fnOf "order_of" "order_of" (defArgs (top 20)) (defBody (top 20)) (defScope (top 20)) .none kV9 dc9 pm9 an9 cd9 ct9), sl9⟩)
    (c9 : PySem.W.codeIn K cd9 "order_of" = true)
    (k9 : PySem.W.keepIn K (.ref f9) = true)
    (a10 : PySem.W.nsIn K mainGlobals "whole_power" = some (some (.ref f10)))
    (l10 : K.lookup f10 = some ⟨oc10, od10, .func (PySem.W.fnOf "whole_power" "whole_power" (defArgs (top 22)) (defBody (top 22)) (defScope (top 22)) .none kV10 dc10 pm10 an10 cd10 ct10), sl10⟩)
    (c10 : PySem.W.codeIn K cd10 "whole_power" = true)
    (k10 : PySem.W.keepIn K (.ref f10) = true)
    (a11 : PySem.W.nsIn K mainGlobals "power_of" = some (some (.ref f11)))
    (l11 : K.lookup f11 = some ⟨oc11, od11, .func (PySem.W.fnOf "power_of" "power_of" (defArgs (top 23)) (defBody (top 23)) (defScope (top 23)) .none kV11 dc11 pm11 an11 cd11 ct11), sl11⟩)
    (c11 : PySem.W.codeIn K cd11 "power_of" = true)
    (k11 : PySem.W.keepIn K (.ref f11) = true)
    (a12 : PySem.W.nsIn K mainGlobals "whole_root" = some (some (.ref f12)))
    (l12 : K.lookup f12 = some ⟨oc12, od12, .func (PySem.W.fnOf "whole_root" "whole_root" (defArgs (top 24)) (defBody (top 24)) (defScope (top 24)) .none kV12 dc12 pm12 an12 cd12 ct12), sl12⟩)
    (c12 : PySem.W.codeIn K cd12 "whole_root" = true)
    (k12 : PySem.W.keepIn K (.ref f12) = true)
    (a13 : PySem.W.nsIn K mainGlobals "root_below_of" = some (some (.ref f13)))
    (l13 : K.lookup f13 = some ⟨oc13, od13, .func (PySem.W.fnOf "root_below_of" "root_below_of" (defArgs (top 25)) (defBody (top 25)) (defScope (top 25)) .none kV13 dc13 pm13 an13 cd13 ct13), sl13⟩)
    (c13 : PySem.W.codeIn K cd13 "root_below_of" = true)
    (k13 : PySem.W.keepIn K (.ref f13) = true)
    (a14 : PySem.W.nsIn K mainGlobals "check_roads" = some (some (.ref f14)))
    (l14 : K.lookup f14 = some ⟨oc14, od14, .func (PySem.W.fnOf "check_roads" "check_roads" (defArgs (top 29)) (defBody (top 29)) (defScope (top 29)) .none kV14 dc14 pm14 an14 cd14 ct14), sl14⟩)
    (c14 : PySem.W.codeIn K cd14 "check_roads" = true)
    (k14 : PySem.W.keepIn K (.ref f14) = true)
    (a15 : PySem.W.nsIn K mainGlobals "check_walkers" = some (some (.ref f15)))
    (l15 : K.lookup f15 = some ⟨oc15, od15, .func (PySem.W.fnOf "check_walkers" "check_walkers" (defArgs (top 30)) (defBody (top 30)) (defScope (top 30)) .none kV15 dc15 pm15 an15 cd15 ct15), sl15⟩)
    (c15 : PySem.W.codeIn K cd15 "check_walkers" = true)
    (k15 : PySem.W.keepIn K (.ref f15) = true)
    (a16 : PySem.W.nsIn K mainGlobals "check_asked" = some (some (.ref f16)))
    (l16 : K.lookup f16 = some ⟨oc16, od16, .func (PySem.W.fnOf "check_asked" "check_asked" (defArgs (top 31)) (defBody (top 31)) (defScope (top 31)) .none kV16 dc16 pm16 an16 cd16 ct16), sl16⟩)
    (c16 : PySem.W.codeIn K cd16 "check_asked" = true)
    (k16 : PySem.W.keepIn K (.ref f16) = true)
    (a17 : PySem.W.nsIn K mainGlobals "check_numbers" = some (some (.ref f17)))
    (l17 : K.lookup f17 = some ⟨oc17, od17, .func (PySem.W.fnOf "check_numbers" "check_numbers" (defArgs (top 32)) (defBody (top 32)) (defScope (top 32)) .none kV17 dc17 pm17 an17 cd17 ct17), sl17⟩)
    (c17 : PySem.W.codeIn K cd17 "check_numbers" = true)
    (k17 : PySem.W.keepIn K (.ref f17) = true)
    (a18 : PySem.W.nsIn K mainGlobals "check_team" = some (some (.ref f18)))
    (l18 : K.lookup f18 = some ⟨oc18, od18, .func (PySem.W.fnOf "check_team" "check_team" (defArgs (top 33)) (defBody (top 33)) (defScope (top 33)) .none kV18 dc18 pm18 an18 cd18 ct18), sl18⟩)
    (c18 : PySem.W.codeIn K cd18 "check_team" = true)
    (k18 : PySem.W.keepIn K (.ref f18) = true)
    (a19 : PySem.W.nsIn K mainGlobals "check_bottom" = some (some (.ref f19)))
    (l19 : K.lookup f19 = some ⟨oc19, od19, .func (PySem.W.fnOf "check_bottom" "check_bottom" (defArgs (top 34)) (defBody (top 34)) (defScope (top 34)) .none kV19 dc19 pm19 an19 cd19 ct19), sl19⟩)
    (c19 : PySem.W.codeIn K cd19 "check_bottom" = true)
    (k19 : PySem.W.keepIn K (.ref f19) = true)
    (a20 : PySem.W.nsIn K mainGlobals "power_by" = some (some (.ref f20)))
    (l20 : K.lookup f20 = some ⟨oc20, od20, .func (PySem.W.fnOf "power_by" "power_by" (defArgs (top 35)) (defBody (top 35)) (defScope (top 35)) .none kV20 dc20 pm20 an20 cd20 ct20), sl20⟩)
    (c20 : PySem.W.codeIn K cd20 "power_by" = true)
    (k20 : PySem.W.keepIn K (.ref f20) = true)
    (a21 : PySem.W.nsIn K mainGlobals "bound_between" = some (some (.ref f21)))
    (l21 : K.lookup f21 = some ⟨oc21, od21, .func (PySem.W.fnOf "bound_between" "bound_between" (defArgs (top 36)) (defBody (top 36)) (defScope (top 36)) .none kV21 dc21 pm21 an21 cd21 ct21), sl21⟩)
    (c21 : PySem.W.codeIn K cd21 "bound_between" = true)
    (k21 : PySem.W.keepIn K (.ref f21) = true)
    (a22 : PySem.W.nsIn K mainGlobals "ratio_of_base" = some (some (.ref f22)))
    (l22 : K.lookup f22 = some ⟨oc22, od22, .func (PySem.W.fnOf "ratio_of_base" "ratio_of_base" (defArgs (top 37)) (defBody (top 37)) (defScope (top 37)) .none kV22 dc22 pm22 an22 cd22 ct22), sl22⟩)
    (c22 : PySem.W.codeIn K cd22 "ratio_of_base" = true)
    (k22 : PySem.W.keepIn K (.ref f22) = true)
    (a23 : PySem.W.nsIn K mainGlobals "base_ratio" = some (some (.ref f23)))
    (l23 : K.lookup f23 = some ⟨oc23, od23, .func (PySem.W.fnOf "base_ratio" "base_ratio" (defArgs (top 38)) (defBody (top 38)) (defScope (top 38)) .none kV23 dc23 pm23 an23 cd23 ct23), sl23⟩)
    (c23 : PySem.W.codeIn K cd23 "base_ratio" = true)
    (k23 : PySem.W.keepIn K (.ref f23) = true)
    (a24 : PySem.W.nsIn K mainGlobals "best_over" = some (some (.ref f24)))
    (l24 : K.lookup f24 = some ⟨oc24, od24, .func (PySem.W.fnOf "best_over" "best_over" (defArgs (top 39)) (defBody (top 39)) (defScope (top 39)) .none kV24 dc24 pm24 an24 cd24 ct24), sl24⟩)
    (c24 : PySem.W.codeIn K cd24 "best_over" = true)
    (k24 : PySem.W.keepIn K (.ref f24) = true)
    (a25 : PySem.W.nsIn K mainGlobals "_law_box" = some (some (.ref f25)))
    (l25 : K.lookup f25 = some ⟨oc25, od25, .func (PySem.W.fnOf "_law_box" "_law_box" (defArgs (top 41)) (defBody (top 41)) (defScope (top 41)) .none kV25 dc25 pm25 an25 cd25 ct25), sl25⟩)
    (c25 : PySem.W.codeIn K cd25 "_law_box" = true)
    (k25 : PySem.W.keepIn K (.ref f25) = true)
    (a26 : PySem.W.nsIn K mainGlobals "_law_take" = some (some (.ref f26)))
    (l26 : K.lookup f26 = some ⟨oc26, od26, .func (PySem.W.fnOf "_law_take" "_law_take" (defArgs (top 42)) (defBody (top 42)) (defScope (top 42)) .none kV26 dc26 pm26 an26 cd26 ct26), sl26⟩)
    (c26 : PySem.W.codeIn K cd26 "_law_take" = true)
    (k26 : PySem.W.keepIn K (.ref f26) = true)
    (a27 : PySem.W.nsIn K mainGlobals "_law_pick" = some (some (.ref f27)))
    (l27 : K.lookup f27 = some ⟨oc27, od27, .func (PySem.W.fnOf "_law_pick" "_law_pick" (defArgs (top 43)) (defBody (top 43)) (defScope (top 43)) .none kV27 dc27 pm27 an27 cd27 ct27), sl27⟩)
    (c27 : PySem.W.codeIn K cd27 "_law_pick" = true)
    (k27 : PySem.W.keepIn K (.ref f27) = true)
    (a28 : PySem.W.nsIn K mainGlobals "_law_cell" = some (some (.ref f28)))
    (l28 : K.lookup f28 = some ⟨oc28, od28, .func (PySem.W.fnOf "_law_cell" "_law_cell" (defArgs (top 44)) (defBody (top 44)) (defScope (top 44)) .none kV28 dc28 pm28 an28 cd28 ct28), sl28⟩)
    (c28 : PySem.W.codeIn K cd28 "_law_cell" = true)
    (k28 : PySem.W.keepIn K (.ref f28) = true)
    (a29 : PySem.W.nsIn K mainGlobals "_law_low" = some (some (.ref f29)))
    (l29 : K.lookup f29 = some ⟨oc29, od29, .func (PySem.W.fnOf "_law_low" "_law_low" (defArgs (top 45)) (defBody (top 45)) (defScope (top 45)) .none kV29 dc29 pm29 an29 cd29 ct29), sl29⟩)
    (c29 : PySem.W.codeIn K cd29 "_law_low" = true)
    (k29 : PySem.W.keepIn K (.ref f29) = true)
    (a30 : PySem.W.nsIn K mainGlobals "_law_plus" = some (some (.ref f30)))
    (l30 : K.lookup f30 = some ⟨oc30, od30, .func (PySem.W.fnOf "_law_plus" "_law_plus" (defArgs (top 46)) (defBody (top 46)) (defScope (top 46)) .none kV30 dc30 pm30 an30 cd30 ct30), sl30⟩)
    (c30 : PySem.W.codeIn K cd30 "_law_plus" = true)
    (k30 : PySem.W.keepIn K (.ref f30) = true)
    (a31 : PySem.W.nsIn K mainGlobals "_law_minus" = some (some (.ref f31)))
    (l31 : K.lookup f31 = some ⟨oc31, od31, .func (PySem.W.fnOf "_law_minus" "_law_minus" (defArgs (top 47)) (defBody (top 47)) (defScope (top 47)) .none kV31 dc31 pm31 an31 cd31 ct31), sl31⟩)
    (c31 : PySem.W.codeIn K cd31 "_law_minus" = true)
    (k31 : PySem.W.keepIn K (.ref f31) = true)
    (a32 : PySem.W.nsIn K mainGlobals "_law_times" = some (some (.ref f32)))
    (l32 : K.lookup f32 = some ⟨oc32, od32, .func (PySem.W.fnOf "_law_times" "_law_times" (defArgs (top 48)) (defBody (top 48)) (defScope (top 48)) .none kV32 dc32 pm32 an32 cd32 ct32), sl32⟩)
    (c32 : PySem.W.codeIn K cd32 "_law_times" = true)
    (k32 : PySem.W.keepIn K (.ref f32) = true)
    (a33 : PySem.W.nsIn K mainGlobals "_law_over" = some (some (.ref f33)))
    (l33 : K.lookup f33 = some ⟨oc33, od33, .func (PySem.W.fnOf "_law_over" "_law_over" (defArgs (top 49)) (defBody (top 49)) (defScope (top 49)) .none kV33 dc33 pm33 an33 cd33 ct33), sl33⟩)
    (c33 : PySem.W.codeIn K cd33 "_law_over" = true)
    (k33 : PySem.W.keepIn K (.ref f33) = true)
    (a34 : PySem.W.nsIn K mainGlobals "_law_less" = some (some (.ref f34)))
    (l34 : K.lookup f34 = some ⟨oc34, od34, .func (PySem.W.fnOf "_law_less" "_law_less" (defArgs (top 50)) (defBody (top 50)) (defScope (top 50)) .none kV34 dc34 pm34 an34 cd34 ct34), sl34⟩)
    (c34 : PySem.W.codeIn K cd34 "_law_less" = true)
    (k34 : PySem.W.keepIn K (.ref f34) = true)
    (a35 : PySem.W.nsIn K mainGlobals "_law_power" = some (some (.ref f35)))
    (l35 : K.lookup f35 = some ⟨oc35, od35, .func (PySem.W.fnOf "_law_power" "_law_power" (defArgs (top 51)) (defBody (top 51)) (defScope (top 51)) .none kV35 dc35 pm35 an35 cd35 ct35), sl35⟩)
    (c35 : PySem.W.codeIn K cd35 "_law_power" = true)
    (k35 : PySem.W.keepIn K (.ref f35) = true)
    (a36 : PySem.W.nsIn K mainGlobals "_law_same" = some (some (.ref f36)))
    (l36 : K.lookup f36 = some ⟨oc36, od36, .func (PySem.W.fnOf "_law_same" "_law_same" (defArgs (top 52)) (defBody (top 52)) (defScope (top 52)) .none kV36 dc36 pm36 an36 cd36 ct36), sl36⟩)
    (c36 : PySem.W.codeIn K cd36 "_law_same" = true)
    (k36 : PySem.W.keepIn K (.ref f36) = true)
    (a37 : PySem.W.nsIn K mainGlobals "_law_blamed" = some (some (.ref f37)))
    (l37 : K.lookup f37 = some ⟨oc37, od37, .func (PySem.W.fnOf "_law_blamed" "_law_blamed" (defArgs (top 53)) (defBody (top 53)) (defScope (top 53)) .none kV37 dc37 pm37 an37 cd37 ct37), sl37⟩)
    (c37 : PySem.W.codeIn K cd37 "_law_blamed" = true)
    (k37 : PySem.W.keepIn K (.ref f37) = true)
    (a38 : PySem.W.nsIn K mainGlobals "_law_whole" = some (some (.ref f38)))
    (l38 : K.lookup f38 = some ⟨oc38, od38, .func (PySem.W.fnOf "_law_whole" "_law_whole" (defArgs (top 54)) (defBody (top 54)) (defScope (top 54)) .none kV38 dc38 pm38 an38 cd38 ct38), sl38⟩)
    (c38 : PySem.W.codeIn K cd38 "_law_whole" = true)
    (k38 : PySem.W.keepIn K (.ref f38) = true)
    (a39 : PySem.W.nsIn K mainGlobals "_law_is_fraction" = some (some (.ref f39)))
    (l39 : K.lookup f39 = some ⟨oc39, od39, .func (PySem.W.fnOf "_law_is_fraction" "_law_is_fraction" (defArgs (top 55)) (defBody (top 55)) (defScope (top 55)) .none kV39 dc39 pm39 an39 cd39 ct39), sl39⟩)
    (c39 : PySem.W.codeIn K cd39 "_law_is_fraction" = true)
    (k39 : PySem.W.keepIn K (.ref f39) = true)
    (a40 : PySem.W.nsIn K mainGlobals "_law_distance" = some (some (.ref f40)))
    (l40 : K.lookup f40 = some ⟨oc40, od40, .func (PySem.W.fnOf "_law_distance" "_law_distance" (defArgs (top 56)) (defBody (top 56)) (defScope (top 56)) .none kV40 dc40 pm40 an40 cd40 ct40), sl40⟩)
    (c40 : PySem.W.codeIn K cd40 "_law_distance" = true)
    (k40 : PySem.W.keepIn K (.ref f40) = true)
    (a41 : PySem.W.nsIn K mainGlobals "_law_raised" = some (some (.ref f41)))
    (l41 : K.lookup f41 = some ⟨oc41, od41, .func (PySem.W.fnOf "_law_raised" "_law_raised" (defArgs (top 57)) (defBody (top 57)) (defScope (top 57)) .none kV41 dc41 pm41 an41 cd41 ct41), sl41⟩)
    (c41 : PySem.W.codeIn K cd41 "_law_raised" = true)
    (k41 : PySem.W.keepIn K (.ref f41) = true)
    (a42 : PySem.W.nsIn K mainGlobals "_law_keeps" = some (some (.ref f42)))
    (l42 : K.lookup f42 = some ⟨oc42, od42, .func (PySem.W.fnOf "_law_keeps" "_law_keeps" (defArgs (top 58)) (defBody (top 58)) (defScope (top 58)) .none kV42 dc42 pm42 an42 cd42 ct42), sl42⟩)
    (c42 : PySem.W.codeIn K cd42 "_law_keeps" = true)
    (k42 : PySem.W.keepIn K (.ref f42) = true)
    (a43 : PySem.W.nsIn K mainGlobals "_law_bound" = some (some (.ref f43)))
    (l43 : K.lookup f43 = some ⟨oc43, od43, .func (PySem.W.fnOf "_law_bound" "_law_bound" (defArgs (top 59)) (defBody (top 59)) (defScope (top 59)) .none kV43 dc43 pm43 an43 cd43 ct43), sl43⟩)
    (c43 : PySem.W.codeIn K cd43 "_law_bound" = true)
    (k43 : PySem.W.keepIn K (.ref f43) = true)
    (a44 : PySem.W.nsIn K mainGlobals "_law_near" = some (some (.ref f44)))
    (l44 : K.lookup f44 = some ⟨oc44, od44, .func (PySem.W.fnOf "_law_near" "_law_near" (defArgs (top 60)) (defBody (top 60)) (defScope (top 60)) .none kV44 dc44 pm44 an44 cd44 ct44), sl44⟩)
    (c44 : PySem.W.codeIn K cd44 "_law_near" = true)
    (k44 : PySem.W.keepIn K (.ref f44) = true)
    (a45 : PySem.W.nsIn K mainGlobals "_law_called" = some (some (.ref f45)))
    (l45 : K.lookup f45 = some ⟨oc45, od45, .func (PySem.W.fnOf "_law_called" "_law_called" (defArgs (top 61)) (defBody (top 61)) (defScope (top 61)) .none kV45 dc45 pm45 an45 cd45 ct45), sl45⟩)
    (c45 : PySem.W.codeIn K cd45 "_law_called" = true)
    (k45 : PySem.W.keepIn K (.ref f45) = true)
    (a46 : PySem.W.nsIn K mainGlobals "_law_refused" = some (some (.ref f46)))
    (l46 : K.lookup f46 = some ⟨oc46, od46, .func (PySem.W.fnOf "_law_refused" "_law_refused" (defArgs (top 62)) (defBody (top 62)) (defScope (top 62)) .none kV46 dc46 pm46 an46 cd46 ct46), sl46⟩)
    (c46 : PySem.W.codeIn K cd46 "_law_refused" = true)
    (k46 : PySem.W.keepIn K (.ref f46) = true)
    (a47 : PySem.W.nsIn K mainGlobals "_law_ratio_by" = some (some (.ref f47)))
    (l47 : K.lookup f47 = some ⟨oc47, od47, .func (PySem.W.fnOf "_law_ratio_by" "_law_ratio_by" (defArgs (top 63)) (defBody (top 63)) (defScope (top 63)) .none kV47 dc47 pm47 an47 cd47 ct47), sl47⟩)
    (c47 : PySem.W.codeIn K cd47 "_law_ratio_by" = true)
    (k47 : PySem.W.keepIn K (.ref f47) = true)
    (a48 : PySem.W.nsIn K mainGlobals "_law_is_best" = some (some (.ref f48)))
    (l48 : K.lookup f48 = some ⟨oc48, od48, .func (PySem.W.fnOf "_law_is_best" "_law_is_best" (defArgs (top 64)) (defBody (top 64)) (defScope (top 64)) .none kV48 dc48 pm48 an48 cd48 ct48), sl48⟩)
    (c48 : PySem.W.codeIn K cd48 "_law_is_best" = true)
    (k48 : PySem.W.keepIn K (.ref f48) = true)
    (a49 : PySem.W.nsIn K mainGlobals "law" = some (some (.ref f49)))
    (l49 : K.lookup f49 = some ⟨oc49, od49, .func (PySem.W.fnOf "law" "law" (defArgs (top 65)) (defBody (top 65)) (defScope (top 65)) .none kV49 dc49 pm49 an49 cd49 ct49), sl49⟩)
    (c49 : PySem.W.codeIn K cd49 "law" = true)
    (k49 : PySem.W.keepIn K (.ref f49) = true)
    (n_abs : PySem.W.nsIn K mainGlobals "abs" = some none)
    (n_bool : PySem.W.nsIn K mainGlobals "bool" = some none)
    (n_dict : PySem.W.nsIn K mainGlobals "dict" = some none)
    (n_int : PySem.W.nsIn K mainGlobals "int" = some none)
    (n_isinstance : PySem.W.nsIn K mainGlobals "isinstance" = some none)
    (n_len : PySem.W.nsIn K mainGlobals "len" = some none)
    (n_list : PySem.W.nsIn K mainGlobals "list" = some none)
    (n_min : PySem.W.nsIn K mainGlobals "min" = some none)
    (n_range : PySem.W.nsIn K mainGlobals "range" = some none)
    (n_str : PySem.W.nsIn K mainGlobals "str" = some none)
    (n_sum : PySem.W.nsIn K mainGlobals "sum" = some none)
    (n_tuple : PySem.W.nsIn K mainGlobals "tuple" = some none)
    (i_gcd : PySem.W.nsIn K mainGlobals "gcd" = some (some (.builtin "math.gcd")))
    (k_WHOLE : PySem.W.nsIn K mainGlobals "WHOLE" = some (some (.ref ka_WHOLE)))
    (kl_WHOLE : K.lookup ka_WHOLE = some ⟨.type "tuple", kd_WHOLE, .seq #[.int 1 kt_WHOLE_0, .int 1 kt_WHOLE_1] kn_WHOLE, ks_WHOLE⟩)
    (k_MOST_TEAM : PySem.W.nsIn K mainGlobals "MOST_TEAM" = some (some (.int 5 kt_MOST_TEAM)))
    (k_TWICE : PySem.W.nsIn K mainGlobals "TWICE" = some (some (.ref ka_TWICE)))
    (kl_TWICE : K.lookup ka_TWICE = some ⟨.type "tuple", kd_TWICE, .seq #[.int 2 kt_TWICE_0, .int 1 kt_TWICE_1] kn_TWICE, ks_TWICE⟩)
    (Ca0 : PySem.W.nsIn K mainGlobals "InvalidAsked" = some (some (.ref C0)))
    (Cx0 : K.lookup C0 = some (excClassObj nm0 q0 C0 N0 bs0 [.ref R0, .type "ValueError", .type "Exception", .type "BaseException", .type "object"] true sn0 sub0 ab0 co0 dd0 m0_0 m1_0 m2_0 m3_0 m5_0 "ValueError.__new__"))
    (Cs0 : PySem.W.findIn K (.ref C0) "__setattr__" = some (some (.builtin "object.__setattr__")))
    (Cg0 : PySem.W.findIn K (.ref C0) "__getattribute__" = some (some (.builtin "BaseException.__getattribute__")))
    (Ch0 : PySem.W.findIn K (.ref C0) "__getattr__" = some none)
    (Cn0 : PySem.W.findIn K (.ref C0) "given" = some none)
    (Ci0 : PySem.W.findIn K (.ref C0) "__init__" = some (some (.ref fi0)))
    (Ct0 : PySem.W.typeIn K (.ref fi0) = some (.type "function"))
    (Cl0 : K.lookup fi0 = some ⟨coc0, cod0, .func (PySem.W.fnOf "__init__" "InvalidAsked.__init__" (defArgs (clsB (top 3))) (defBody (clsB (top 3))) (defScope (clsB (top 3))) .none ckV0 cdc0 cpm0 can0 ccd0 cct0), csl0⟩)
    (Cc0 : PySem.W.codeIn K ccd0 "InvalidAsked.__init__" = true)
    (Ck0 : PySem.W.keepIn K (.ref fi0) = true)
    (CK0 : PySem.W.keepIn K (.ref C0) = true)
    (Ce0 : PySem.W.subIn K (.ref C0) (.type "BaseException") = some true)
    (CT0 : PySem.W.typeIn K (.ref C0) = some (.type "type"))
    (Cd0 : PySem.W.hasDictIn K C0 = true)
    (CI0 : PySem.W.isClsIn K C0 = true)
    (Ca1 : PySem.W.nsIn K mainGlobals "InvalidBase" = some (some (.ref C1)))
    (Cx1 : K.lookup C1 = some (excClassObj nm1 q1 C1 N1 bs1 [.ref R1, .type "ValueError", .type "Exception", .type "BaseException", .type "object"] true sn1 sub1 ab1 co1 dd1 m0_1 m1_1 m2_1 m3_1 m5_1 "ValueError.__new__"))
    (Cs1 : PySem.W.findIn K (.ref C1) "__setattr__" = some (some (.builtin "object.__setattr__")))
    (Cg1 : PySem.W.findIn K (.ref C1) "__getattribute__" = some (some (.builtin "BaseException.__getattribute__")))
    (Ch1 : PySem.W.findIn K (.ref C1) "__getattr__" = some none)
    (Cn1 : PySem.W.findIn K (.ref C1) "given" = some none)
    (Ci1 : PySem.W.findIn K (.ref C1) "__init__" = some (some (.ref fi1)))
    (Ct1 : PySem.W.typeIn K (.ref fi1) = some (.type "function"))
    (Cl1 : K.lookup fi1 = some ⟨coc1, cod1, .func (PySem.W.fnOf "__init__" "InvalidBase.__init__" (defArgs (clsB (top 4))) (defBody (clsB (top 4))) (defScope (clsB (top 4))) .none ckV1 cdc1 cpm1 can1 ccd1 cct1), csl1⟩)
    (Cc1 : PySem.W.codeIn K ccd1 "InvalidBase.__init__" = true)
    (Ck1 : PySem.W.keepIn K (.ref fi1) = true)
    (CK1 : PySem.W.keepIn K (.ref C1) = true)
    (Ce1 : PySem.W.subIn K (.ref C1) (.type "BaseException") = some true)
    (CT1 : PySem.W.typeIn K (.ref C1) = some (.type "type"))
    (Cd1 : PySem.W.hasDictIn K C1 = true)
    (CI1 : PySem.W.isClsIn K C1 = true)
    (Ca2 : PySem.W.nsIn K mainGlobals "InvalidNumber" = some (some (.ref C2)))
    (Cx2 : K.lookup C2 = some (excClassObj nm2 q2 C2 N2 bs2 [.ref R2, .type "ValueError", .type "Exception", .type "BaseException", .type "object"] true sn2 sub2 ab2 co2 dd2 m0_2 m1_2 m2_2 m3_2 m5_2 "ValueError.__new__"))
    (Cs2 : PySem.W.findIn K (.ref C2) "__setattr__" = some (some (.builtin "object.__setattr__")))
    (Cg2 : PySem.W.findIn K (.ref C2) "__getattribute__" = some (some (.builtin "BaseException.__getattribute__")))
    (Ch2 : PySem.W.findIn K (.ref C2) "__getattr__" = some none)
    (Cn2 : PySem.W.findIn K (.ref C2) "given" = some none)
    (Ci2 : PySem.W.findIn K (.ref C2) "__init__" = some (some (.ref fi2)))
    (Ct2 : PySem.W.typeIn K (.ref fi2) = some (.type "function"))
    (Cl2 : K.lookup fi2 = some ⟨coc2, cod2, .func (PySem.W.fnOf "__init__" "InvalidNumber.__init__" (defArgs (clsB (top 5))) (defBody (clsB (top 5))) (defScope (clsB (top 5))) .none ckV2 cdc2 cpm2 can2 ccd2 cct2), csl2⟩)
    (Cc2 : PySem.W.codeIn K ccd2 "InvalidNumber.__init__" = true)
    (Ck2 : PySem.W.keepIn K (.ref fi2) = true)
    (CK2 : PySem.W.keepIn K (.ref C2) = true)
    (Ce2 : PySem.W.subIn K (.ref C2) (.type "BaseException") = some true)
    (CT2 : PySem.W.typeIn K (.ref C2) = some (.type "type"))
    (Cd2 : PySem.W.hasDictIn K C2 = true)
    (CI2 : PySem.W.isClsIn K C2 = true)
    (Ca3 : PySem.W.nsIn K mainGlobals "InvalidRoads" = some (some (.ref C3)))
    (Cx3 : K.lookup C3 = some (excClassObj nm3 q3 C3 N3 bs3 [.ref R3, .type "ValueError", .type "Exception", .type "BaseException", .type "object"] true sn3 sub3 ab3 co3 dd3 m0_3 m1_3 m2_3 m3_3 m5_3 "ValueError.__new__"))
    (Cs3 : PySem.W.findIn K (.ref C3) "__setattr__" = some (some (.builtin "object.__setattr__")))
    (Cg3 : PySem.W.findIn K (.ref C3) "__getattribute__" = some (some (.builtin "BaseException.__getattribute__")))
    (Ch3 : PySem.W.findIn K (.ref C3) "__getattr__" = some none)
    (Cn3 : PySem.W.findIn K (.ref C3) "given" = some none)
    (Ci3 : PySem.W.findIn K (.ref C3) "__init__" = some (some (.ref fi3)))
    (Ct3 : PySem.W.typeIn K (.ref fi3) = some (.type "function"))
    (Cl3 : K.lookup fi3 = some ⟨coc3, cod3, .func (PySem.W.fnOf "__init__" "InvalidRoads.__init__" (defArgs (clsB (top 6))) (defBody (clsB (top 6))) (defScope (clsB (top 6))) .none ckV3 cdc3 cpm3 can3 ccd3 cct3), csl3⟩)
    (Cc3 : PySem.W.codeIn K ccd3 "InvalidRoads.__init__" = true)
    (Ck3 : PySem.W.keepIn K (.ref fi3) = true)
    (CK3 : PySem.W.keepIn K (.ref C3) = true)
    (Ce3 : PySem.W.subIn K (.ref C3) (.type "BaseException") = some true)
    (CT3 : PySem.W.typeIn K (.ref C3) = some (.type "type"))
    (Cd3 : PySem.W.hasDictIn K C3 = true)
    (CI3 : PySem.W.isClsIn K C3 = true)
    (Ca4 : PySem.W.nsIn K mainGlobals "InvalidWalkers" = some (some (.ref C4)))
    (Cx4 : K.lookup C4 = some (excClassObj nm4 q4 C4 N4 bs4 [.ref R4, .type "ValueError", .type "Exception", .type "BaseException", .type "object"] true sn4 sub4 ab4 co4 dd4 m0_4 m1_4 m2_4 m3_4 m5_4 "ValueError.__new__"))
    (Cs4 : PySem.W.findIn K (.ref C4) "__setattr__" = some (some (.builtin "object.__setattr__")))
    (Cg4 : PySem.W.findIn K (.ref C4) "__getattribute__" = some (some (.builtin "BaseException.__getattribute__")))
    (Ch4 : PySem.W.findIn K (.ref C4) "__getattr__" = some none)
    (Cn4 : PySem.W.findIn K (.ref C4) "given" = some none)
    (Ci4 : PySem.W.findIn K (.ref C4) "__init__" = some (some (.ref fi4)))
    (Ct4 : PySem.W.typeIn K (.ref fi4) = some (.type "function"))
    (Cl4 : K.lookup fi4 = some ⟨coc4, cod4, .func (PySem.W.fnOf "__init__" "InvalidWalkers.__init__" (defArgs (clsB (top 7))) (defBody (clsB (top 7))) (defScope (clsB (top 7))) .none ckV4 cdc4 cpm4 can4 ccd4 cct4), csl4⟩)
    (Cc4 : PySem.W.codeIn K ccd4 "InvalidWalkers.__init__" = true)
    (Ck4 : PySem.W.keepIn K (.ref fi4) = true)
    (CK4 : PySem.W.keepIn K (.ref C4) = true)
    (Ce4 : PySem.W.subIn K (.ref C4) (.type "BaseException") = some true)
    (CT4 : PySem.W.typeIn K (.ref C4) = some (.type "type"))
    (Cd4 : PySem.W.hasDictIn K C4 = true)
    (CI4 : PySem.W.isClsIn K C4 = true)
    (Z0_0 : PySem.W.subIn K (.ref C0) (.ref C0) = some true)
    (Z1_0 : PySem.W.subIn K (.ref C1) (.ref C0) = some false)
    (Z2_0 : PySem.W.subIn K (.ref C2) (.ref C0) = some false)
    (Z3_0 : PySem.W.subIn K (.ref C3) (.ref C0) = some false)
    (Z4_0 : PySem.W.subIn K (.ref C4) (.ref C0) = some false)
    (Z0_1 : PySem.W.subIn K (.ref C0) (.ref C1) = some false)
    (Z1_1 : PySem.W.subIn K (.ref C1) (.ref C1) = some true)
    (Z2_1 : PySem.W.subIn K (.ref C2) (.ref C1) = some false)
    (Z3_1 : PySem.W.subIn K (.ref C3) (.ref C1) = some false)
    (Z4_1 : PySem.W.subIn K (.ref C4) (.ref C1) = some false)
    (Z0_2 : PySem.W.subIn K (.ref C0) (.ref C2) = some false)
    (Z1_2 : PySem.W.subIn K (.ref C1) (.ref C2) = some false)
    (Z2_2 : PySem.W.subIn K (.ref C2) (.ref C2) = some true)
    (Z3_2 : PySem.W.subIn K (.ref C3) (.ref C2) = some false)
    (Z4_2 : PySem.W.subIn K (.ref C4) (.ref C2) = some false)
    (Z0_3 : PySem.W.subIn K (.ref C0) (.ref C3) = some false)
    (Z1_3 : PySem.W.subIn K (.ref C1) (.ref C3) = some false)
    (Z2_3 : PySem.W.subIn K (.ref C2) (.ref C3) = some false)
    (Z3_3 : PySem.W.subIn K (.ref C3) (.ref C3) = some true)
    (Z4_3 : PySem.W.subIn K (.ref C4) (.ref C3) = some false)
    (Z0_4 : PySem.W.subIn K (.ref C0) (.ref C4) = some false)
    (Z1_4 : PySem.W.subIn K (.ref C1) (.ref C4) = some false)
    (Z2_4 : PySem.W.subIn K (.ref C2) (.ref C4) = some false)
    (Z3_4 : PySem.W.subIn K (.ref C3) (.ref C4) = some false)
    (Z4_4 : PySem.W.subIn K (.ref C4) (.ref C4) = some true)
    : ∃ fd : FuncData, (∀ (s : Shared) (u : Value), BindsTo s fd ⟨[u], []⟩ [("script", u)]) ∧ ∀ base : Heap, K.In base → base.Ns mainGlobals mg → FnOk P w K mg base (L2.CX P w) 12 fa fd ["script"] (spLaw K (fun fu => callN (pr fu) 10 49)) := by
  have e : f49 = fa := Value.ref.inj (Option.some.inj ((PySem.W.mg_of X G a49).symm.trans hfa))
  subst e
  let ad : Ad := mkAd [f0, f1, f2, f3, f4, f5, f6, f7, f8, f9, f10, f11, f12, f13, f14, f15, f16, f17, f18, f19, f20, f21, f22, f23, f24, f25, f26, f27, f28, f29, f30, f31, f32, f33, f34, f35, f36, f37, f38, f39, f40, f41, f42, f43, f44, f45, f46, f47, f48, f49] [(PySem.W.fnOf "is_integer" "is_integer" (defArgs (top 9)) (defBody (top 9)) (defScope (top 9)) .none kV0 dc0 pm0 an0 cd0 ct0), (PySem.W.fnOf "is_between" "is_between" (defArgs (top 10)) (defBody (top 10)) (defScope (top 10)) .none kV1 dc1 pm1 an1 cd1 ct1), (PySem.W.fnOf "is_tuple_of" "is_tuple_of" (defArgs (top 11)) (defBody (top 11)) (defScope (top 11)) .none kV2 dc2 pm2 an2 cd2 ct2), (PySem.W.fnOf "fraction_of" "fraction_of" (defArgs (top 14)) (defBody (top 14)) (defScope (top 14)) .none kV3 dc3 pm3 an3 cd3 ct3), (PySem.W.fnOf "is_fraction" "is_fraction" (defArgs (top 15)) (defBody (top 15)) (defScope (top 15)) .none kV4 dc4 pm4 an4 cd4 ct4), (PySem.W.fnOf "sum_of" "sum_of" (defArgs (top 16)) (defBody (top 16)) (defScope (top 16)) .none kV5 dc5 pm5 an5 cd5 ct5), (PySem.W.fnOf "difference_of" "difference_of" (defArgs (top 17)) (defBody (top 17)) (defScope (top 17)) .none kV6 dc6 pm6 an6 cd6 ct6), (PySem.W.fnOf "times_of" "times_of" (defArgs (top 18)) (defBody (top 18)) (defScope (top 18)) .none kV7 dc7 pm7 an7 cd7 ct7), (PySem.W.fnOf "over_of" "over_of" (defArgs (top 19)) (defBody (top 19)) (defScope (top 19)) .none kV8 dc8 pm8 an8 cd8 ct8), (PySem.W.fnOf "order_of" "order_of" (defArgs (top 20)) (defBody (top 20)) (defScope (top 20)) .none kV9 dc9 pm9 an9 cd9 ct9), (PySem.W.fnOf "whole_power" "whole_power" (defArgs (top 22)) (defBody (top 22)) (defScope (top 22)) .none kV10 dc10 pm10 an10 cd10 ct10), (PySem.W.fnOf "power_of" "power_of" (defArgs (top 23)) (defBody (top 23)) (defScope (top 23)) .none kV11 dc11 pm11 an11 cd11 ct11), (PySem.W.fnOf "whole_root" "whole_root" (defArgs (top 24)) (defBody (top 24)) (defScope (top 24)) .none kV12 dc12 pm12 an12 cd12 ct12), (PySem.W.fnOf "root_below_of" "root_below_of" (defArgs (top 25)) (defBody (top 25)) (defScope (top 25)) .none kV13 dc13 pm13 an13 cd13 ct13), (PySem.W.fnOf "check_roads" "check_roads" (defArgs (top 29)) (defBody (top 29)) (defScope (top 29)) .none kV14 dc14 pm14 an14 cd14 ct14), (PySem.W.fnOf "check_walkers" "check_walkers" (defArgs (top 30)) (defBody (top 30)) (defScope (top 30)) .none kV15 dc15 pm15 an15 cd15 ct15), (PySem.W.fnOf "check_asked" "check_asked" (defArgs (top 31)) (defBody (top 31)) (defScope (top 31)) .none kV16 dc16 pm16 an16 cd16 ct16), (PySem.W.fnOf "check_numbers" "check_numbers" (defArgs (top 32)) (defBody (top 32)) (defScope (top 32)) .none kV17 dc17 pm17 an17 cd17 ct17), (PySem.W.fnOf "check_team" "check_team" (defArgs (top 33)) (defBody (top 33)) (defScope (top 33)) .none kV18 dc18 pm18 an18 cd18 ct18), (PySem.W.fnOf "check_bottom" "check_bottom" (defArgs (top 34)) (defBody (top 34)) (defScope (top 34)) .none kV19 dc19 pm19 an19 cd19 ct19), (PySem.W.fnOf "power_by" "power_by" (defArgs (top 35)) (defBody (top 35)) (defScope (top 35)) .none kV20 dc20 pm20 an20 cd20 ct20), (PySem.W.fnOf "bound_between" "bound_between" (defArgs (top 36)) (defBody (top 36)) (defScope (top 36)) .none kV21 dc21 pm21 an21 cd21 ct21), (PySem.W.fnOf "ratio_of_base" "ratio_of_base" (defArgs (top 37)) (defBody (top 37)) (defScope (top 37)) .none kV22 dc22 pm22 an22 cd22 ct22), (PySem.W.fnOf "base_ratio" "base_ratio" (defArgs (top 38)) (defBody (top 38)) (defScope (top 38)) .none kV23 dc23 pm23 an23 cd23 ct23), (PySem.W.fnOf "best_over" "best_over" (defArgs (top 39)) (defBody (top 39)) (defScope (top 39)) .none kV24 dc24 pm24 an24 cd24 ct24), (PySem.W.fnOf "_law_box" "_law_box" (defArgs (top 41)) (defBody (top 41)) (defScope (top 41)) .none kV25 dc25 pm25 an25 cd25 ct25), (PySem.W.fnOf "_law_take" "_law_take" (defArgs (top 42)) (defBody (top 42)) (defScope (top 42)) .none kV26 dc26 pm26 an26 cd26 ct26), (PySem.W.fnOf "_law_pick" "_law_pick" (defArgs (top 43)) (defBody (top 43)) (defScope (top 43)) .none kV27 dc27 pm27 an27 cd27 ct27), (PySem.W.fnOf "_law_cell" "_law_cell" (defArgs (top 44)) (defBody (top 44)) (defScope (top 44)) .none kV28 dc28 pm28 an28 cd28 ct28), (PySem.W.fnOf "_law_low" "_law_low" (defArgs (top 45)) (defBody (top 45)) (defScope (top 45)) .none kV29 dc29 pm29 an29 cd29 ct29), (PySem.W.fnOf "_law_plus" "_law_plus" (defArgs (top 46)) (defBody (top 46)) (defScope (top 46)) .none kV30 dc30 pm30 an30 cd30 ct30), (PySem.W.fnOf "_law_minus" "_law_minus" (defArgs (top 47)) (defBody (top 47)) (defScope (top 47)) .none kV31 dc31 pm31 an31 cd31 ct31), (PySem.W.fnOf "_law_times" "_law_times" (defArgs (top 48)) (defBody (top 48)) (defScope (top 48)) .none kV32 dc32 pm32 an32 cd32 ct32), (PySem.W.fnOf "_law_over" "_law_over" (defArgs (top 49)) (defBody (top 49)) (defScope (top 49)) .none kV33 dc33 pm33 an33 cd33 ct33), (PySem.W.fnOf "_law_less" "_law_less" (defArgs (top 50)) (defBody (top 50)) (defScope (top 50)) .none kV34 dc34 pm34 an34 cd34 ct34), (PySem.W.fnOf "_law_power" "_law_power" (defArgs (top 51)) (defBody (top 51)) (defScope (top 51)) .none kV35 dc35 pm35 an35 cd35 ct35), (PySem.W.fnOf "_law_same" "_law_same" (defArgs (top 52)) (defBody (top 52)) (defScope (top 52)) .none kV36 dc36 pm36 an36 cd36 ct36), (PySem.W.fnOf "_law_blamed" "_law_blamed" (defArgs (top 53)) (defBody (top 53)) (defScope (top 53)) .none kV37 dc37 pm37 an37 cd37 ct37), (PySem.W.fnOf "_law_whole" "_law_whole" (defArgs (top 54)) (defBody (top 54)) (defScope (top 54)) .none kV38 dc38 pm38 an38 cd38 ct38), (PySem.W.fnOf "_law_is_fraction" "_law_is_fraction" (defArgs (top 55)) (defBody (top 55)) (defScope (top 55)) .none kV39 dc39 pm39 an39 cd39 ct39), (PySem.W.fnOf "_law_distance" "_law_distance" (defArgs (top 56)) (defBody (top 56)) (defScope (top 56)) .none kV40 dc40 pm40 an40 cd40 ct40), (PySem.W.fnOf "_law_raised" "_law_raised" (defArgs (top 57)) (defBody (top 57)) (defScope (top 57)) .none kV41 dc41 pm41 an41 cd41 ct41), (PySem.W.fnOf "_law_keeps" "_law_keeps" (defArgs (top 58)) (defBody (top 58)) (defScope (top 58)) .none kV42 dc42 pm42 an42 cd42 ct42), (PySem.W.fnOf "_law_bound" "_law_bound" (defArgs (top 59)) (defBody (top 59)) (defScope (top 59)) .none kV43 dc43 pm43 an43 cd43 ct43), (PySem.W.fnOf "_law_near" "_law_near" (defArgs (top 60)) (defBody (top 60)) (defScope (top 60)) .none kV44 dc44 pm44 an44 cd44 ct44), (PySem.W.fnOf "_law_called" "_law_called" (defArgs (top 61)) (defBody (top 61)) (defScope (top 61)) .none kV45 dc45 pm45 an45 cd45 ct45), (PySem.W.fnOf "_law_refused" "_law_refused" (defArgs (top 62)) (defBody (top 62)) (defScope (top 62)) .none kV46 dc46 pm46 an46 cd46 ct46), (PySem.W.fnOf "_law_ratio_by" "_law_ratio_by" (defArgs (top 63)) (defBody (top 63)) (defScope (top 63)) .none kV47 dc47 pm47 an47 cd47 ct47), (PySem.W.fnOf "_law_is_best" "_law_is_best" (defArgs (top 64)) (defBody (top 64)) (defScope (top 64)) .none kV48 dc48 pm48 an48 cd48 ct48), (PySem.W.fnOf "law" "law" (defArgs (top 65)) (defBody (top 65)) (defScope (top 65)) .none kV49 dc49 pm49 an49 cd49 ct49)] [C0, C1, C2, C3, C4] [fi0, fi1, fi2, fi3, fi4] [(PySem.W.fnOf "__init__" "InvalidAsked.__init__" (defArgs (clsB (top 3))) (defBody (clsB (top 3))) (defScope (clsB (top 3))) .none ckV0 cdc0 cpm0 can0 ccd0 cct0), (PySem.W.fnOf "__init__" "InvalidBase.__init__" (defArgs (clsB (top 4))) (defBody (clsB (top 4))) (defScope (clsB (top 4))) .none ckV1 cdc1 cpm1 can1 ccd1 cct1), (PySem.W.fnOf "__init__" "InvalidNumber.__init__" (defArgs (clsB (top 5))) (defBody (clsB (top 5))) (defScope (clsB (top 5))) .none ckV2 cdc2 cpm2 can2 ccd2 cct2), (PySem.W.fnOf "__init__" "InvalidRoads.__init__" (defArgs (clsB (top 6))) (defBody (clsB (top 6))) (defScope (clsB (top 6))) .none ckV3 cdc3 cpm3 can3 ccd3 cct3), (PySem.W.fnOf "__init__" "InvalidWalkers.__init__" (defArgs (clsB (top 7))) (defBody (clsB (top 7))) (defScope (clsB (top 7))) .none ckV4 cdc4 cpm4 can4 ccd4 cct4)] (PySem.W.fnOf "is_integer" "is_integer" (defArgs (top 9)) (defBody (top 9)) (defScope (top 9)) .none kV0 dc0 pm0 an0 cd0 ct0)
  have F0 : Fun K "is_integer" "is_integer" (top 9) f0 (PySem.W.fnOf "is_integer" "is_integer" (defArgs (top 9)) (defBody (top 9)) (defScope (top 9)) .none kV0 dc0 pm0 an0 cd0 ct0) := fun_mk l0 c0 k0
  have B0 := F0.binds (ps := ["value"]) fun _ _ _ _ _ _ us hl => match us, hl with | [_], _ => rfl
  have F1 : Fun K "is_between" "is_between" (top 10) f1 (PySem.W.fnOf "is_between" "is_between" (defArgs (top 10)) (defBody (top 10)) (defScope (top 10)) .none kV1 dc1 pm1 an1 cd1 ct1) := fun_mk l1 c1 k1
  have B1 := F1.binds (ps := ["value", "least", "most"]) fun _ _ _ _ _ _ us hl => match us, hl with | [_, _, _], _ => rfl
  have F2 : Fun K "is_tuple_of" "is_tuple_of" (top 11) f2 (PySem.W.fnOf "is_tuple_of" "is_tuple_of" (defArgs (top 11)) (defBody (top 11)) (defScope (top 11)) .none kV2 dc2 pm2 an2 cd2 ct2) := fun_mk l2 c2 k2
  have B2 := F2.binds (ps := ["value", "many"]) fun _ _ _ _ _ _ us hl => match us, hl with | [_, _], _ => rfl
  have F3 : Fun K "fraction_of" "fraction_of" (top 14) f3 (PySem.W.fnOf "fraction_of" "fraction_of" (defArgs (top 14)) (defBody (top 14)) (defScope (top 14)) .none kV3 dc3 pm3 an3 cd3 ct3) := fun_mk l3 c3 k3
  have B3 := F3.binds (ps := ["n", "d"]) fun _ _ _ _ _ _ us hl => match us, hl with | [_, _], _ => rfl
  have F4 : Fun K "is_fraction" "is_fraction" (top 15) f4 (PySem.W.fnOf "is_fraction" "is_fraction" (defArgs (top 15)) (defBody (top 15)) (defScope (top 15)) .none kV4 dc4 pm4 an4 cd4 ct4) := fun_mk l4 c4 k4
  have B4 := F4.binds (ps := ["value"]) fun _ _ _ _ _ _ us hl => match us, hl with | [_], _ => rfl
  have F5 : Fun K "sum_of" "sum_of" (top 16) f5 (PySem.W.fnOf "sum_of" "sum_of" (defArgs (top 16)) (defBody (top 16)) (defScope (top 16)) .none kV5 dc5 pm5 an5 cd5 ct5) := fun_mk l5 c5 k5
  have B5 := F5.binds (ps := ["one", "other"]) fun _ _ _ _ _ _ us hl => match us, hl with | [_, _], _ => rfl
  have F6 : Fun K "difference_of" "difference_of" (top 17) f6 (PySem.W.fnOf "difference_of" "difference_of" (defArgs (top 17)) (defBody (top 17)) (defScope (top 17)) .none kV6 dc6 pm6 an6 cd6 ct6) := fun_mk l6 c6 k6
  have B6 := F6.binds (ps := ["one", "other"]) fun _ _ _ _ _ _ us hl => match us, hl with | [_, _], _ => rfl
  have F7 : Fun K "times_of" "times_of" (top 18) f7 (PySem.W.fnOf "times_of" "times_of" (defArgs (top 18)) (defBody (top 18)) (defScope (top 18)) .none kV7 dc7 pm7 an7 cd7 ct7) := fun_mk l7 c7 k7
  have B7 := F7.binds (ps := ["one", "other"]) fun _ _ _ _ _ _ us hl => match us, hl with | [_, _], _ => rfl
  have F8 : Fun K "over_of" "over_of" (top 19) f8 (PySem.W.fnOf "over_of" "over_of" (defArgs (top 19)) (defBody (top 19)) (defScope (top 19)) .none kV8 dc8 pm8 an8 cd8 ct8) := fun_mk l8 c8 k8
  have B8 := F8.binds (ps := ["one", "other"]) fun _ _ _ _ _ _ us hl => match us, hl with | [_, _], _ => rfl
  have F9 : Fun K "order_of" "order_of" (top 20) f9 (PySem.W.fnOf "order_of" "order_of" (defArgs (top 20)) (defBody (top 20)) (defScope (top 20)) .none kV9 dc9 pm9 an9 cd9 ct9) := fun_mk l9 c9 k9
  have B9 := F9.binds (ps := ["one", "other"]) fun _ _ _ _ _ _ us hl => match us, hl with | [_, _], _ => rfl
  have F10 : Fun K "whole_power" "whole_power" (top 22) f10 (PySem.W.fnOf "whole_power" "whole_power" (defArgs (top 22)) (defBody (top 22)) (defScope (top 22)) .none kV10 dc10 pm10 an10 cd10 ct10) := fun_mk l10 c10 k10
  have B10 := F10.binds (ps := ["number", "exponent"]) fun _ _ _ _ _ _ us hl => match us, hl with | [_, _], _ => rfl
  have F11 : Fun K "power_of" "power_of" (top 23) f11 (PySem.W.fnOf "power_of" "power_of" (defArgs (top 23)) (defBody (top 23)) (defScope (top 23)) .none kV11 dc11 pm11 an11 cd11 ct11) := fun_mk l11 c11 k11
  have B11 := F11.binds (ps := ["one", "exponent"]) fun _ _ _ _ _ _ us hl => match us, hl with | [_, _], _ => rfl
  have F12 : Fun K "whole_root" "whole_root" (top 24) f12 (PySem.W.fnOf "whole_root" "whole_root" (defArgs (top 24)) (defBody (top 24)) (defScope (top 24)) .none kV12 dc12 pm12 an12 cd12 ct12) := fun_mk l12 c12 k12
  have B12 := F12.binds (ps := ["number", "exponent"]) fun _ _ _ _ _ _ us hl => match us, hl with | [_, _], _ => rfl
  have F13 : Fun K "root_below_of" "root_below_of" (top 25) f13 (PySem.W.fnOf "root_below_of" "root_below_of" (defArgs (top 25)) (defBody (top 25)) (defScope (top 25)) .none kV13 dc13 pm13 an13 cd13 ct13) := fun_mk l13 c13 k13
  have B13 := F13.binds (ps := ["one", "exponent", "d"]) fun _ _ _ _ _ _ us hl => match us, hl with | [_, _, _], _ => rfl
  have F14 : Fun K "check_roads" "check_roads" (top 29) f14 (PySem.W.fnOf "check_roads" "check_roads" (defArgs (top 29)) (defBody (top 29)) (defScope (top 29)) .none kV14 dc14 pm14 an14 cd14 ct14) := fun_mk l14 c14 k14
  have B14 := F14.binds (ps := ["roads"]) fun _ _ _ _ _ _ us hl => match us, hl with | [_], _ => rfl
  have F15 : Fun K "check_walkers" "check_walkers" (top 30) f15 (PySem.W.fnOf "check_walkers" "check_walkers" (defArgs (top 30)) (defBody (top 30)) (defScope (top 30)) .none kV15 dc15 pm15 an15 cd15 ct15) := fun_mk l15 c15 k15
  have B15 := F15.binds (ps := ["walkers"]) fun _ _ _ _ _ _ us hl => match us, hl with | [_], _ => rfl
  have F16 : Fun K "check_asked" "check_asked" (top 31) f16 (PySem.W.fnOf "check_asked" "check_asked" (defArgs (top 31)) (defBody (top 31)) (defScope (top 31)) .none kV16 dc16 pm16 an16 cd16 ct16) := fun_mk l16 c16 k16
  have B16 := F16.binds (ps := ["asked"]) fun _ _ _ _ _ _ us hl => match us, hl with | [_], _ => rfl
  have F17 : Fun K "check_numbers" "check_numbers" (top 32) f17 (PySem.W.fnOf "check_numbers" "check_numbers" (defArgs (top 32)) (defBody (top 32)) (defScope (top 32)) .none kV17 dc17 pm17 an17 cd17 ct17) := fun_mk l17 c17 k17
  have B17 := F17.binds (ps := ["roads", "walkers", "asked"]) fun _ _ _ _ _ _ us hl => match us, hl with | [_, _, _], _ => rfl
  have F18 : Fun K "check_team" "check_team" (top 33) f18 (PySem.W.fnOf "check_team" "check_team" (defArgs (top 33)) (defBody (top 33)) (defScope (top 33)) .none kV18 dc18 pm18 an18 cd18 ct18) := fun_mk l18 c18 k18
  have B18 := F18.binds (ps := ["roads", "walkers", "asked"]) fun _ _ _ _ _ _ us hl => match us, hl with | [_, _, _], _ => rfl
  have F19 : Fun K "check_bottom" "check_bottom" (top 34) f19 (PySem.W.fnOf "check_bottom" "check_bottom" (defArgs (top 34)) (defBody (top 34)) (defScope (top 34)) .none kV19 dc19 pm19 an19 cd19 ct19) := fun_mk l19 c19 k19
  have B19 := F19.binds (ps := ["bottom"]) fun _ _ _ _ _ _ us hl => match us, hl with | [_], _ => rfl
  have F20 : Fun K "power_by" "power_by" (top 35) f20 (PySem.W.fnOf "power_by" "power_by" (defArgs (top 35)) (defBody (top 35)) (defScope (top 35)) .none kV20 dc20 pm20 an20 cd20 ct20) := fun_mk l20 c20 k20
  have B20 := F20.binds (ps := ["whole", "walkers"]) fun _ _ _ _ _ _ us hl => match us, hl with | [_, _], _ => rfl
  have F21 : Fun K "bound_between" "bound_between" (top 36) f21 (PySem.W.fnOf "bound_between" "bound_between" (defArgs (top 36)) (defBody (top 36)) (defScope (top 36)) .none kV21 dc21 pm21 an21 cd21 ct21) := fun_mk l21 c21 k21
  have B21 := F21.binds (ps := ["roads", "walkers", "asked", "bottom"]) fun _ _ _ _ _ _ us hl => match us, hl with | [_, _, _, _], _ => rfl
  have F22 : Fun K "ratio_of_base" "ratio_of_base" (top 37) f22 (PySem.W.fnOf "ratio_of_base" "ratio_of_base" (defArgs (top 37)) (defBody (top 37)) (defScope (top 37)) .none kV22 dc22 pm22 an22 cd22 ct22) := fun_mk l22 c22 k22
  have B22 := F22.binds (ps := ["whole", "walkers", "base"]) fun _ _ _ _ _ _ us hl => match us, hl with | [_, _, _], _ => rfl
  have F23 : Fun K "base_ratio" "base_ratio" (top 38) f23 (PySem.W.fnOf "base_ratio" "base_ratio" (defArgs (top 38)) (defBody (top 38)) (defScope (top 38)) .none kV23 dc23 pm23 an23 cd23 ct23) := fun_mk l23 c23 k23
  have B23 := F23.binds (ps := ["roads", "walkers", "asked", "base"]) fun _ _ _ _ _ _ us hl => match us, hl with | [_, _, _, _], _ => rfl
  have F24 : Fun K "best_over" "best_over" (top 39) f24 (PySem.W.fnOf "best_over" "best_over" (defArgs (top 39)) (defBody (top 39)) (defScope (top 39)) .none kV24 dc24 pm24 an24 cd24 ct24) := fun_mk l24 c24 k24
  have B24 := F24.binds (ps := ["roads", "walkers", "asked", "bottom"]) fun _ _ _ _ _ _ us hl => match us, hl with | [_, _, _, _], _ => rfl
  have F25 : Fun K "_law_box" "_law_box" (top 41) f25 (PySem.W.fnOf "_law_box" "_law_box" (defArgs (top 41)) (defBody (top 41)) (defScope (top 41)) .none kV25 dc25 pm25 an25 cd25 ct25) := fun_mk l25 c25 k25
  have B25 := F25.binds (ps := ["great"]) fun _ _ _ _ _ _ us hl => match us, hl with | [_], _ => rfl
  have F26 : Fun K "_law_take" "_law_take" (top 42) f26 (PySem.W.fnOf "_law_take" "_law_take" (defArgs (top 42)) (defBody (top 42)) (defScope (top 42)) .none kV26 dc26 pm26 an26 cd26 ct26) := fun_mk l26 c26 k26
  have B26 := F26.binds (ps := ["box", "many"]) fun _ _ _ _ _ _ us hl => match us, hl with | [_, _], _ => rfl
  have F27 : Fun K "_law_pick" "_law_pick" (top 43) f27 (PySem.W.fnOf "_law_pick" "_law_pick" (defArgs (top 43)) (defBody (top 43)) (defScope (top 43)) .none kV27 dc27 pm27 an27 cd27 ct27) := fun_mk l27 c27 k27
  have B27 := F27.binds (ps := ["box", "some"]) fun _ _ _ _ _ _ us hl => match us, hl with | [_, _], _ => rfl
  have F28 : Fun K "_law_cell" "_law_cell" (top 44) f28 (PySem.W.fnOf "_law_cell" "_law_cell" (defArgs (top 44)) (defBody (top 44)) (defScope (top 44)) .none kV28 dc28 pm28 an28 cd28 ct28) := fun_mk l28 c28 k28
  have B28 := F28.binds (ps := ["script", "k"]) fun _ _ _ _ _ _ us hl => match us, hl with | [_, _], _ => rfl
  have F29 : Fun K "_law_low" "_law_low" (top 45) f29 (PySem.W.fnOf "_law_low" "_law_low" (defArgs (top 45)) (defBody (top 45)) (defScope (top 45)) .none kV29 dc29 pm29 an29 cd29 ct29) := fun_mk l29 c29 k29
  have B29 := F29.binds (ps := ["top", "bottom"]) fun _ _ _ _ _ _ us hl => match us, hl with | [_, _], _ => rfl
  have F30 : Fun K "_law_plus" "_law_plus" (top 46) f30 (PySem.W.fnOf "_law_plus" "_law_plus" (defArgs (top 46)) (defBody (top 46)) (defScope (top 46)) .none kV30 dc30 pm30 an30 cd30 ct30) := fun_mk l30 c30 k30
  have B30 := F30.binds (ps := ["one", "other"]) fun _ _ _ _ _ _ us hl => match us, hl with | [_, _], _ => rfl
  have F31 : Fun K "_law_minus" "_law_minus" (top 47) f31 (PySem.W.fnOf "_law_minus" "_law_minus" (defArgs (top 47)) (defBody (top 47)) (defScope (top 47)) .none kV31 dc31 pm31 an31 cd31 ct31) := fun_mk l31 c31 k31
  have B31 := F31.binds (ps := ["one", "other"]) fun _ _ _ _ _ _ us hl => match us, hl with | [_, _], _ => rfl
  have F32 : Fun K "_law_times" "_law_times" (top 48) f32 (PySem.W.fnOf "_law_times" "_law_times" (defArgs (top 48)) (defBody (top 48)) (defScope (top 48)) .none kV32 dc32 pm32 an32 cd32 ct32) := fun_mk l32 c32 k32
  have B32 := F32.binds (ps := ["one", "other"]) fun _ _ _ _ _ _ us hl => match us, hl with | [_, _], _ => rfl
  have F33 : Fun K "_law_over" "_law_over" (top 49) f33 (PySem.W.fnOf "_law_over" "_law_over" (defArgs (top 49)) (defBody (top 49)) (defScope (top 49)) .none kV33 dc33 pm33 an33 cd33 ct33) := fun_mk l33 c33 k33
  have B33 := F33.binds (ps := ["one", "other"]) fun _ _ _ _ _ _ us hl => match us, hl with | [_, _], _ => rfl
  have F34 : Fun K "_law_less" "_law_less" (top 50) f34 (PySem.W.fnOf "_law_less" "_law_less" (defArgs (top 50)) (defBody (top 50)) (defScope (top 50)) .none kV34 dc34 pm34 an34 cd34 ct34) := fun_mk l34 c34 k34
  have B34 := F34.binds (ps := ["one", "other"]) fun _ _ _ _ _ _ us hl => match us, hl with | [_, _], _ => rfl
  have F35 : Fun K "_law_power" "_law_power" (top 51) f35 (PySem.W.fnOf "_law_power" "_law_power" (defArgs (top 51)) (defBody (top 51)) (defScope (top 51)) .none kV35 dc35 pm35 an35 cd35 ct35) := fun_mk l35 c35 k35
  have B35 := F35.binds (ps := ["one", "many"]) fun _ _ _ _ _ _ us hl => match us, hl with | [_, _], _ => rfl
  have F36 : Fun K "_law_same" "_law_same" (top 52) f36 (PySem.W.fnOf "_law_same" "_law_same" (defArgs (top 52)) (defBody (top 52)) (defScope (top 52)) .none kV36 dc36 pm36 an36 cd36 ct36) := fun_mk l36 c36 k36
  have B36 := F36.binds (ps := ["told", "due"]) fun _ _ _ _ _ _ us hl => match us, hl with | [_, _], _ => rfl
  have F37 : Fun K "_law_blamed" "_law_blamed" (top 53) f37 (PySem.W.fnOf "_law_blamed" "_law_blamed" (defArgs (top 53)) (defBody (top 53)) (defScope (top 53)) .none kV37 dc37 pm37 an37 cd37 ct37) := fun_mk l37 c37 k37
  have B37 := F37.binds (ps := ["told", "word", "value"]) fun _ _ _ _ _ _ us hl => match us, hl with | [_, _, _], _ => rfl
  have F38 : Fun K "_law_whole" "_law_whole" (top 54) f38 (PySem.W.fnOf "_law_whole" "_law_whole" (defArgs (top 54)) (defBody (top 54)) (defScope (top 54)) .none kV38 dc38 pm38 an38 cd38 ct38) := fun_mk l38 c38 k38
  have B38 := F38.binds (ps := ["value"]) fun _ _ _ _ _ _ us hl => match us, hl with | [_], _ => rfl
  have F39 : Fun K "_law_is_fraction" "_law_is_fraction" (top 55) f39 (PySem.W.fnOf "_law_is_fraction" "_law_is_fraction" (defArgs (top 55)) (defBody (top 55)) (defScope (top 55)) .none kV39 dc39 pm39 an39 cd39 ct39) := fun_mk l39 c39 k39
  have B39 := F39.binds (ps := ["value"]) fun _ _ _ _ _ _ us hl => match us, hl with | [_], _ => rfl
  have F40 : Fun K "_law_distance" "_law_distance" (top 56) f40 (PySem.W.fnOf "_law_distance" "_law_distance" (defArgs (top 56)) (defBody (top 56)) (defScope (top 56)) .none kV40 dc40 pm40 an40 cd40 ct40) := fun_mk l40 c40 k40
  have B40 := F40.binds (ps := ["box"]) fun _ _ _ _ _ _ us hl => match us, hl with | [_], _ => rfl
  have F41 : Fun K "_law_raised" "_law_raised" (top 57) f41 (PySem.W.fnOf "_law_raised" "_law_raised" (defArgs (top 57)) (defBody (top 57)) (defScope (top 57)) .none kV41 dc41 pm41 an41 cd41 ct41) := fun_mk l41 c41 k41
  have B41 := F41.binds (ps := ["one", "many"]) fun _ _ _ _ _ _ us hl => match us, hl with | [_, _], _ => rfl
  have F42 : Fun K "_law_keeps" "_law_keeps" (top 58) f42 (PySem.W.fnOf "_law_keeps" "_law_keeps" (defArgs (top 58)) (defBody (top 58)) (defScope (top 58)) .none kV42 dc42 pm42 an42 cd42 ct42) := fun_mk l42 c42 k42
  have B42 := F42.binds (ps := ["roads", "walkers", "asked", "ratio"]) fun _ _ _ _ _ _ us hl => match us, hl with | [_, _, _, _], _ => rfl
  have F43 : Fun K "_law_bound" "_law_bound" (top 59) f43 (PySem.W.fnOf "_law_bound" "_law_bound" (defArgs (top 59)) (defBody (top 59)) (defScope (top 59)) .none kV43 dc43 pm43 an43 cd43 ct43) := fun_mk l43 c43 k43
  have B43 := F43.binds (ps := ["roads", "walkers", "asked"]) fun _ _ _ _ _ _ us hl => match us, hl with | [_, _, _], _ => rfl
  have F44 : Fun K "_law_near" "_law_near" (top 60) f44 (PySem.W.fnOf "_law_near" "_law_near" (defArgs (top 60)) (defBody (top 60)) (defScope (top 60)) .none kV44 dc44 pm44 an44 cd44 ct44) := fun_mk l44 c44 k44
  have B44 := F44.binds (ps := ["roads", "walkers", "asked", "bottom"]) fun _ _ _ _ _ _ us hl => match us, hl with | [_, _, _, _], _ => rfl
  have F45 : Fun K "_law_called" "_law_called" (top 61) f45 (PySem.W.fnOf "_law_called" "_law_called" (defArgs (top 61)) (defBody (top 61)) (defScope (top 61)) .none kV45 dc45 pm45 an45 cd45 ct45) := fun_mk l45 c45 k45
  have B45 := F45.binds (ps := ["which", "args", "named"]) fun _ _ _ _ _ _ us hl => match us, hl with | [_, _, _], _ => rfl
  have F46 : Fun K "_law_refused" "_law_refused" (top 62) f46 (PySem.W.fnOf "_law_refused" "_law_refused" (defArgs (top 62)) (defBody (top 62)) (defScope (top 62)) .none kV46 dc46 pm46 an46 cd46 ct46) := fun_mk l46 c46 k46
  have B46 := F46.binds (ps := ["box", "named"]) fun _ _ _ _ _ _ us hl => match us, hl with | [_, _], _ => rfl
  have F47 : Fun K "_law_ratio_by" "_law_ratio_by" (top 63) f47 (PySem.W.fnOf "_law_ratio_by" "_law_ratio_by" (defArgs (top 63)) (defBody (top 63)) (defScope (top 63)) .none kV47 dc47 pm47 an47 cd47 ct47) := fun_mk l47 c47 k47
  have B47 := F47.binds (ps := ["roads", "walkers", "asked", "base"]) fun _ _ _ _ _ _ us hl => match us, hl with | [_, _, _, _], _ => rfl
  have F48 : Fun K "_law_is_best" "_law_is_best" (top 64) f48 (PySem.W.fnOf "_law_is_best" "_law_is_best" (defArgs (top 64)) (defBody (top 64)) (defScope (top 64)) .none kV48 dc48 pm48 an48 cd48 ct48) := fun_mk l48 c48 k48
  have B48 := F48.binds (ps := ["roads", "walkers", "asked", "bottom", "value"]) fun _ _ _ _ _ _ us hl => match us, hl with | [_, _, _, _, _], _ => rfl
  have F49 : Fun K "law" "law" (top 65) f49 (PySem.W.fnOf "law" "law" (defArgs (top 65)) (defBody (top 65)) (defScope (top 65)) .none kV49 dc49 pm49 an49 cd49 ct49) := fun_mk l49 c49 k49
  have B49 := F49.binds (ps := ["script"]) fun _ _ _ _ _ _ us hl => match us, hl with | [_], _ => rfl
  have S : Ss_ K mg ad := ⟨⟨PySem.W.mg_of X G a0, k0, B0, F0⟩, ⟨PySem.W.mg_of X G a1, k1, B1, F1⟩, ⟨PySem.W.mg_of X G a2, k2, B2, F2⟩, ⟨PySem.W.mg_of X G a3, k3, B3, F3⟩, ⟨PySem.W.mg_of X G a4, k4, B4, F4⟩, ⟨PySem.W.mg_of X G a5, k5, B5, F5⟩, ⟨PySem.W.mg_of X G a6, k6, B6, F6⟩, ⟨PySem.W.mg_of X G a7, k7, B7, F7⟩, ⟨PySem.W.mg_of X G a8, k8, B8, F8⟩, ⟨PySem.W.mg_of X G a9, k9, B9, F9⟩, ⟨PySem.W.mg_of X G a10, k10, B10, F10⟩, ⟨PySem.W.mg_of X G a11, k11, B11, F11⟩, ⟨PySem.W.mg_of X G a12, k12, B12, F12⟩, ⟨PySem.W.mg_of X G a13, k13, B13, F13⟩, ⟨PySem.W.mg_of X G a14, k14, B14, F14⟩, ⟨PySem.W.mg_of X G a15, k15, B15, F15⟩, ⟨PySem.W.mg_of X G a16, k16, B16, F16⟩, ⟨PySem.W.mg_of X G a17, k17, B17, F17⟩, ⟨PySem.W.mg_of X G a18, k18, B18, F18⟩, ⟨PySem.W.mg_of X G a19, k19, B19, F19⟩, ⟨PySem.W.mg_of X G a20, k20, B20, F20⟩, ⟨PySem.W.mg_of X G a21, k21, B21, F21⟩, ⟨PySem.W.mg_of X G a22, k22, B22, F22⟩, ⟨PySem.W.mg_of X G a23, k23, B23, F23⟩, ⟨PySem.W.mg_of X G a24, k24, B24, F24⟩, ⟨PySem.W.mg_of X G a25, k25, B25, F25⟩, ⟨PySem.W.mg_of X G a26, k26, B26, F26⟩, ⟨PySem.W.mg_of X G a27, k27, B27, F27⟩, ⟨PySem.W.mg_of X G a28, k28, B28, F28⟩, ⟨PySem.W.mg_of X G a29, k29, B29, F29⟩, ⟨PySem.W.mg_of X G a30, k30, B30, F30⟩, ⟨PySem.W.mg_of X G a31, k31, B31, F31⟩, ⟨PySem.W.mg_of X G a32, k32, B32, F32⟩, ⟨PySem.W.mg_of X G a33, k33, B33, F33⟩, ⟨PySem.W.mg_of X G a34, k34, B34, F34⟩, ⟨PySem.W.mg_of X G a35, k35, B35, F35⟩, ⟨PySem.W.mg_of X G a36, k36, B36, F36⟩, ⟨PySem.W.mg_of X G a37, k37, B37, F37⟩, ⟨PySem.W.mg_of X G a38, k38, B38, F38⟩, ⟨PySem.W.mg_of X G a39, k39, B39, F39⟩, ⟨PySem.W.mg_of X G a40, k40, B40, F40⟩, ⟨PySem.W.mg_of X G a41, k41, B41, F41⟩, ⟨PySem.W.mg_of X G a42, k42, B42, F42⟩, ⟨PySem.W.mg_of X G a43, k43, B43, F43⟩, ⟨PySem.W.mg_of X G a44, k44, B44, F44⟩, ⟨PySem.W.mg_of X G a45, k45, B45, F45⟩, ⟨PySem.W.mg_of X G a46, k46, B46, F46⟩, ⟨PySem.W.mg_of X G a47, k47, B47, F47⟩, ⟨PySem.W.mg_of X G a48, k48, B48, F48⟩, ⟨PySem.W.mg_of X G a49, k49, B49, F49⟩⟩
  have cx : cxl ad "InvalidAsked" = some C0 ∧ cxl ad "InvalidBase" = some C1 ∧ cxl ad "InvalidNumber" = some C2 ∧ cxl ad "InvalidRoads" = some C3 ∧ cxl ad "InvalidWalkers" = some C4 := by
    unfold cxl
    refine ⟨?_, ?_, ?_, ?_, ?_⟩
    · exact (if_pos rfl)
    · exact ((if_neg (by decide)).trans <| if_pos rfl)
    · exact ((if_neg (by decide)).trans <| (if_neg (by decide)).trans <| if_pos rfl)
    · exact ((if_neg (by decide)).trans <| (if_neg (by decide)).trans <| (if_neg (by decide)).trans <| if_pos rfl)
    · exact ((if_neg (by decide)).trans <| (if_neg (by decide)).trans <| (if_neg (by decide)).trans <| (if_neg (by decide)).trans <| if_pos rfl)
  have O0 : OexC K C0 := ⟨⟨nm0, q0, N0, bs0, _, sn0, sub0, ab0, co0, dd0, m0_0, m1_0, m2_0, m3_0, m5_0, Cx0, rfl⟩, Cs0, Ce0, CT0, CK0⟩
  have O1 : OexC K C1 := ⟨⟨nm1, q1, N1, bs1, _, sn1, sub1, ab1, co1, dd1, m0_1, m1_1, m2_1, m3_1, m5_1, Cx1, rfl⟩, Cs1, Ce1, CT1, CK1⟩
  have O2 : OexC K C2 := ⟨⟨nm2, q2, N2, bs2, _, sn2, sub2, ab2, co2, dd2, m0_2, m1_2, m2_2, m3_2, m5_2, Cx2, rfl⟩, Cs2, Ce2, CT2, CK2⟩
  have O3 : OexC K C3 := ⟨⟨nm3, q3, N3, bs3, _, sn3, sub3, ab3, co3, dd3, m0_3, m1_3, m2_3, m3_3, m5_3, Cx3, rfl⟩, Cs3, Ce3, CT3, CK3⟩
  have O4 : OexC K C4 := ⟨⟨nm4, q4, N4, bs4, _, sn4, sub4, ab4, co4, dd4, m0_4, m1_4, m2_4, m3_4, m5_4, Cx4, rfl⟩, Cs4, Ce4, CT4, CK4⟩
  refine ⟨(PySem.W.fnOf "law" "law" (defArgs (top 65)) (defBody (top 65)) (defScope (top 65)) .none kV49 dc49 pm49 an49 cd49 ct49), fun s u => .of_eq rfl, fun base hb1 hb2 => law_ok (cx := cxl ad) fun fu => ?_⟩
  have GG : Gs w K mg base ad := {
    n_abs := PySem.W.mg_none_of X G n_abs,
    n_bool := PySem.W.mg_none_of X G n_bool,
    n_dict := PySem.W.mg_none_of X G n_dict,
    n_int := PySem.W.mg_none_of X G n_int,
    n_isinstance := PySem.W.mg_none_of X G n_isinstance,
    n_len := PySem.W.mg_none_of X G n_len,
    n_list := PySem.W.mg_none_of X G n_list,
    n_min := PySem.W.mg_none_of X G n_min,
    n_range := PySem.W.mg_none_of X G n_range,
    n_str := PySem.W.mg_none_of X G n_str,
    n_sum := PySem.W.mg_none_of X G n_sum,
    n_tuple := PySem.W.mg_none_of X G n_tuple,
    i_gcd := PySem.W.mg_of X G i_gcd,
    k_WHOLE := kc_tup (vs := [.int 1, .int 1]) (PySem.W.mg_of X G k_WHOLE) kl_WHOLE (by show 2 ≤ 1000000; decide) (.cons ⟨_, rfl⟩ (.cons ⟨_, rfl⟩ .nil)) (fun _ _ => (.cons (.int _) (.cons (.int _) .nil))),
    k_MOST_TEAM := kc_int (PySem.W.mg_of X G k_MOST_TEAM),
    k_TWICE := kc_tup (vs := [.int 2, .int 1]) (PySem.W.mg_of X G k_TWICE) kl_TWICE (by show 2 ≤ 1000000; decide) (.cons ⟨_, rfl⟩ (.cons ⟨_, rfl⟩ .nil)) (fun _ _ => (.cons (.int _) (.cons (.int _) .nil))),
    kb0 := ⟨fun s ws _ hl => match ws, hl with | [_, _, _, _], _ => .of_eq rfl⟩,
    kb1 := ⟨fun s ws _ hl => match ws, hl with | [_, _, _, _], _ => .of_eq rfl⟩,
    kb2 := ⟨fun s ws _ hl => match ws, hl with | [_, _, _, _], _ => .of_eq rfl⟩,
    x_InvalidAsked := xcls_mk O0 Ci0 Ct0 (fun_mk (st := clsB (top 3)) Cl0 Cc0 Ck0) ⟨rfl, rfl, rfl, by decide +kernel, rfl, by decide +kernel, by decide +kernel⟩ rfl rfl rfl (by decide) (by decide) (fun _ => rfl) ((fun_mk (st := clsB (top 3)) Cl0 Cc0 Ck0).binds (ps := ["self", "given"]) fun _ _ _ _ _ _ us hl => match us, hl with | [_, _], _ => rfl) (PySem.W.mg_of X G Ca0) Cn0 cx.1,
    xf_InvalidAsked := ⟨Cg0, Ch0, Ce0, Cd0⟩,
    x_InvalidBase := xcls_mk O1 Ci1 Ct1 (fun_mk (st := clsB (top 4)) Cl1 Cc1 Ck1) ⟨rfl, rfl, rfl, by decide +kernel, rfl, by decide +kernel, by decide +kernel⟩ rfl rfl rfl (by decide) (by decide) (fun _ => rfl) ((fun_mk (st := clsB (top 4)) Cl1 Cc1 Ck1).binds (ps := ["self", "given"]) fun _ _ _ _ _ _ us hl => match us, hl with | [_, _], _ => rfl) (PySem.W.mg_of X G Ca1) Cn1 cx.2.1,
    xf_InvalidBase := ⟨Cg1, Ch1, Ce1, Cd1⟩,
    x_InvalidNumber := xcls_mk O2 Ci2 Ct2 (fun_mk (st := clsB (top 5)) Cl2 Cc2 Ck2) ⟨rfl, rfl, rfl, by decide +kernel, rfl, by decide +kernel, by decide +kernel⟩ rfl rfl rfl (by decide) (by decide) (fun _ => rfl) ((fun_mk (st := clsB (top 5)) Cl2 Cc2 Ck2).binds (ps := ["self", "given"]) fun _ _ _ _ _ _ us hl => match us, hl with | [_, _], _ => rfl) (PySem.W.mg_of X G Ca2) Cn2 cx.2.2.1,
    xf_InvalidNumber := ⟨Cg2, Ch2, Ce2, Cd2⟩,
    x_InvalidRoads := xcls_mk O3 Ci3 Ct3 (fun_mk (st := clsB (top 6)) Cl3 Cc3 Ck3) ⟨rfl, rfl, rfl, by decide +kernel, rfl, by decide +kernel, by decide +kernel⟩ rfl rfl rfl (by decide) (by decide) (fun _ => rfl) ((fun_mk (st := clsB (top 6)) Cl3 Cc3 Ck3).binds (ps := ["self", "given"]) fun _ _ _ _ _ _ us hl => match us, hl with | [_, _], _ => rfl) (PySem.W.mg_of X G Ca3) Cn3 cx.2.2.2.1,
    xf_InvalidRoads := ⟨Cg3, Ch3, Ce3, Cd3⟩,
    x_InvalidWalkers := xcls_mk O4 Ci4 Ct4 (fun_mk (st := clsB (top 7)) Cl4 Cc4 Ck4) ⟨rfl, rfl, rfl, by decide +kernel, rfl, by decide +kernel, by decide +kernel⟩ rfl rfl rfl (by decide) (by decide) (fun _ => rfl) ((fun_mk (st := clsB (top 7)) Cl4 Cc4 Ck4).binds (ps := ["self", "given"]) fun _ _ _ _ _ _ us hl => match us, hl with | [_, _], _ => rfl) (PySem.W.mg_of X G Ca4) Cn4 cx.2.2.2.2,
    xf_InvalidWalkers := ⟨Cg4, Ch4, Ce4, Cd4⟩,
    hex_InvalidAsked := fun c' C' h => (by
      unfold cxl at h
      by_cases e0 : c' = "InvalidAsked"
      · subst e0
        rw [if_pos rfl] at h
        cases h
        exact (exm_of Ce0 CI0 CT0 Z0_0).trans (by decide +kernel)
      rw [if_neg e0] at h
      by_cases e1 : c' = "InvalidBase"
      · subst e1
        rw [if_pos rfl] at h
        cases h
        exact (exm_of Ce0 CI0 CT0 Z1_0).trans (by decide +kernel)
      rw [if_neg e1] at h
      by_cases e2 : c' = "InvalidNumber"
      · subst e2
        rw [if_pos rfl] at h
        cases h
        exact (exm_of Ce0 CI0 CT0 Z2_0).trans (by decide +kernel)
      rw [if_neg e2] at h
      by_cases e3 : c' = "InvalidRoads"
      · subst e3
        rw [if_pos rfl] at h
        cases h
        exact (exm_of Ce0 CI0 CT0 Z3_0).trans (by decide +kernel)
      rw [if_neg e3] at h
      by_cases e4 : c' = "InvalidWalkers"
      · subst e4
        rw [if_pos rfl] at h
        cases h
        exact (exm_of Ce0 CI0 CT0 Z4_0).trans (by decide +kernel)
      rw [if_neg e4] at h
      cases h),
    hex_InvalidBase := fun c' C' h => (by
      unfold cxl at h
      by_cases e0 : c' = "InvalidAsked"
      · subst e0
        rw [if_pos rfl] at h
        cases h
        exact (exm_of Ce1 CI1 CT1 Z0_1).trans (by decide +kernel)
      rw [if_neg e0] at h
      by_cases e1 : c' = "InvalidBase"
      · subst e1
        rw [if_pos rfl] at h
        cases h
        exact (exm_of Ce1 CI1 CT1 Z1_1).trans (by decide +kernel)
      rw [if_neg e1] at h
      by_cases e2 : c' = "InvalidNumber"
      · subst e2
        rw [if_pos rfl] at h
        cases h
        exact (exm_of Ce1 CI1 CT1 Z2_1).trans (by decide +kernel)
      rw [if_neg e2] at h
      by_cases e3 : c' = "InvalidRoads"
      · subst e3
        rw [if_pos rfl] at h
        cases h
        exact (exm_of Ce1 CI1 CT1 Z3_1).trans (by decide +kernel)
      rw [if_neg e3] at h
      by_cases e4 : c' = "InvalidWalkers"
      · subst e4
        rw [if_pos rfl] at h
        cases h
        exact (exm_of Ce1 CI1 CT1 Z4_1).trans (by decide +kernel)
      rw [if_neg e4] at h
      cases h),
    hex_InvalidNumber := fun c' C' h => (by
      unfold cxl at h
      by_cases e0 : c' = "InvalidAsked"
      · subst e0
        rw [if_pos rfl] at h
        cases h
        exact (exm_of Ce2 CI2 CT2 Z0_2).trans (by decide +kernel)
      rw [if_neg e0] at h
      by_cases e1 : c' = "InvalidBase"
      · subst e1
        rw [if_pos rfl] at h
        cases h
        exact (exm_of Ce2 CI2 CT2 Z1_2).trans (by decide +kernel)
      rw [if_neg e1] at h
      by_cases e2 : c' = "InvalidNumber"
      · subst e2
        rw [if_pos rfl] at h
        cases h
        exact (exm_of Ce2 CI2 CT2 Z2_2).trans (by decide +kernel)
      rw [if_neg e2] at h
      by_cases e3 : c' = "InvalidRoads"
      · subst e3
        rw [if_pos rfl] at h
        cases h
        exact (exm_of Ce2 CI2 CT2 Z3_2).trans (by decide +kernel)
      rw [if_neg e3] at h
      by_cases e4 : c' = "InvalidWalkers"
      · subst e4
        rw [if_pos rfl] at h
        cases h
        exact (exm_of Ce2 CI2 CT2 Z4_2).trans (by decide +kernel)
      rw [if_neg e4] at h
      cases h),
    hex_InvalidRoads := fun c' C' h => (by
      unfold cxl at h
      by_cases e0 : c' = "InvalidAsked"
      · subst e0
        rw [if_pos rfl] at h
        cases h
        exact (exm_of Ce3 CI3 CT3 Z0_3).trans (by decide +kernel)
      rw [if_neg e0] at h
      by_cases e1 : c' = "InvalidBase"
      · subst e1
        rw [if_pos rfl] at h
        cases h
        exact (exm_of Ce3 CI3 CT3 Z1_3).trans (by decide +kernel)
      rw [if_neg e1] at h
      by_cases e2 : c' = "InvalidNumber"
      · subst e2
        rw [if_pos rfl] at h
        cases h
        exact (exm_of Ce3 CI3 CT3 Z2_3).trans (by decide +kernel)
      rw [if_neg e2] at h
      by_cases e3 : c' = "InvalidRoads"
      · subst e3
        rw [if_pos rfl] at h
        cases h
        exact (exm_of Ce3 CI3 CT3 Z3_3).trans (by decide +kernel)
      rw [if_neg e3] at h
      by_cases e4 : c' = "InvalidWalkers"
      · subst e4
        rw [if_pos rfl] at h
        cases h
        exact (exm_of Ce3 CI3 CT3 Z4_3).trans (by decide +kernel)
      rw [if_neg e4] at h
      cases h),
    hex_InvalidWalkers := fun c' C' h => (by
      unfold cxl at h
      by_cases e0 : c' = "InvalidAsked"
      · subst e0
        rw [if_pos rfl] at h
        cases h
        exact (exm_of Ce4 CI4 CT4 Z0_4).trans (by decide +kernel)
      rw [if_neg e0] at h
      by_cases e1 : c' = "InvalidBase"
      · subst e1
        rw [if_pos rfl] at h
        cases h
        exact (exm_of Ce4 CI4 CT4 Z1_4).trans (by decide +kernel)
      rw [if_neg e1] at h
      by_cases e2 : c' = "InvalidNumber"
      · subst e2
        rw [if_pos rfl] at h
        cases h
        exact (exm_of Ce4 CI4 CT4 Z2_4).trans (by decide +kernel)
      rw [if_neg e2] at h
      by_cases e3 : c' = "InvalidRoads"
      · subst e3
        rw [if_pos rfl] at h
        cases h
        exact (exm_of Ce4 CI4 CT4 Z3_4).trans (by decide +kernel)
      rw [if_neg e3] at h
      by_cases e4 : c' = "InvalidWalkers"
      · subst e4
        rw [if_pos rfl] at h
        cases h
        exact (exm_of Ce4 CI4 CT4 Z4_4).trans (by decide +kernel)
      rw [if_neg e4] at h
      cases h) }
  exact (all_ok (fu := fu) S GG 10).f49.ok
end MP.Law

/-! means: whole numbers (own work) -/
namespace MP.Am
theorem sq_nn (x : Int) : 0 ≤ x * x := by
  rcases Int.le_total 0 x with h | h
  · exact Int.mul_nonneg h h
  · have := Int.mul_nonneg (show 0 ≤ -x by omega) (show 0 ≤ -x by omega)
    rwa [Int.neg_mul_neg] at this
theorem pw_nn {c : Int} (hc : 0 ≤ c) : ∀ n : Nat, 0 ≤ c ^ n
  | 0 => by rw [Int.pow_zero]; decide
  | n + 1 => by rw [Int.pow_succ]; exact Int.mul_nonneg (pw_nn hc n) hc
theorem tang (c d : Int) (hc : 0 ≤ c) (hd : 0 ≤ d) : ∀ n : Nat, ((n : Int) + 1) * c ^ n * d ≤ d ^ (n + 1) + n * c ^ (n + 1)
  | 0 => by simp [Int.pow_succ]
  | n + 1 => by
    have h := Int.mul_le_mul_of_nonneg_left (tang c d hc hd n) hd
    have h2 : 0 ≤ ((n : Int) + 1) * c ^ n * ((d - c) * (d - c)) := Int.mul_nonneg (Int.mul_nonneg (by omega) (pw_nn hc n)) (sq_nn _)
    have e : d ^ (n + 1 + 1) + ((n + 1 : Nat) : Int) * c ^ (n + 1 + 1) - (((n + 1 : Nat) : Int) + 1) * c ^ (n + 1) * d = (d * (d ^ (n + 1) + n * c ^ (n + 1)) - d * (((n : Int) + 1) * c ^ n * d)) + ((n : Int) + 1) * c ^ n * ((d - c) * (d - c)) := by
      push_cast
      grind
    omega
theorem mean1 (u v : Int) (hu : 0 ≤ u) (hv : 0 ≤ v) (n : Nat) : ((n : Int) + 1) ^ (n + 1) * u ^ n * v ≤ (n * u + v) ^ (n + 1) := by
  have hnu : 0 ≤ (n : Int) * u := Int.mul_nonneg (by omega) hu
  have h := tang (((n : Int) + 1) * u) (n * u + v) (Int.mul_nonneg (by omega) hu) (by omega) n
  have e : ((n : Int) + 1) * (((n : Int) + 1) * u) ^ n * (n * u + v) = n * (((n : Int) + 1) * u) ^ (n + 1) + ((n : Int) + 1) ^ (n + 1) * u ^ n * v := by
    rw [Int.mul_pow, Int.mul_pow]
    generalize (n : Int) = N
    grind
  omega
/-- the weighted mean -/
theorem mean (u v : Int) (hu : 0 ≤ u) (hv : 0 ≤ v) (k : Nat) : ∀ m : Nat, ((k : Int) + m) ^ (k + m) * u ^ k * v ^ m ≤ (k * u + m * v) ^ (k + m)
  | 0 => by
    simp [Int.mul_pow]
  | m + 1 => by
    by_cases h0 : k + m = 0
    · have hk : k = 0 := by omega
      have hm : m = 0 := by omega
      subst hk hm
      simp
    have ih := mean u v hu hv k m
    have hS : 0 ≤ (k : Int) * u + m * v := Int.add_nonneg (Int.mul_nonneg (by omega) hu) (Int.mul_nonneg (by omega) hv)
    generalize hn : k + m = n at *
    have hN : (k : Int) + m = n := by omega
    rw [hN] at ih
    generalize hs : (k : Int) * u + m * v = S at *
    have h1 := mean1 S (n * v) hS (Int.mul_nonneg (by omega) hv) n
    have e1 : (n : Int) * S + n * v = n * (S + v) := by grind
    rw [e1, Int.mul_pow] at h1
    -- n^(n+1) (S+v)^(n+1) ≥ (n+1)^(n+1) S^n n v
    have e2 : (k : Int) * u + ((m + 1 : Nat) : Int) * v = S + v := by rw [← hs]; push_cast; grind
    have e3 : (k : Int) + ((m + 1 : Nat) : Int) = (n : Int) + 1 := by omega
    have e4 : k + (m + 1) = n + 1 := by omega
    rw [e2, e3, e4]
    have h2 : ((n : Int) + 1) ^ (n + 1) * ((n : Int) ^ n * u ^ k * v ^ m) ≤ ((n : Int) + 1) ^ (n + 1) * S ^ n := Int.mul_le_mul_of_nonneg_left ih (pw_nn (by omega) _)
    have h3 := Int.mul_le_mul_of_nonneg_right h2 (Int.mul_nonneg (show 0 ≤ (n : Int) by omega) hv)
    have hp : 0 < (n : Int) ^ (n + 1) := Int.pow_pos (by omega)
    refine Int.le_of_mul_le_mul_left ?_ hp
    calc (n : Int) ^ (n + 1) * (((n : Int) + 1) ^ (n + 1) * u ^ k * v ^ (m + 1)) = ((n : Int) + 1) ^ (n + 1) * ((n : Int) ^ n * u ^ k * v ^ m) * (n * v) := by
          rw [Int.pow_succ (n : Int) n, Int.pow_succ v m]
          grind
      _ ≤ ((n : Int) + 1) ^ (n + 1) * S ^ n * (n * v) := h3
      _ ≤ _ := h1
/-- Q m^k n^(Q - k) ≤ k m^Q + (Q - k) n^Q -/
theorem mean2 (x y : Int) (hx : 0 ≤ x) (hy : 0 ≤ y) (k m : Nat) (h0 : 0 < k + m) : ((k : Int) + m) * (x ^ k * y ^ m) ≤ k * x ^ (k + m) + m * y ^ (k + m) := by
  have h := mean (x ^ (k + m)) (y ^ (k + m)) (pw_nn hx _) (pw_nn hy _) k m
  have hR : 0 ≤ (k : Int) * x ^ (k + m) + m * y ^ (k + m) := Int.add_nonneg (Int.mul_nonneg (by omega) (pw_nn hx _)) (Int.mul_nonneg (by omega) (pw_nn hy _))
  have hL : 0 ≤ ((k : Int) + m) * (x ^ k * y ^ m) := Int.mul_nonneg (by omega) (Int.mul_nonneg (pw_nn hx _) (pw_nn hy _))
  have e : ((k : Int) + m) ^ (k + m) * (x ^ (k + m)) ^ k * (y ^ (k + m)) ^ m = (((k : Int) + m) * (x ^ k * y ^ m)) ^ (k + m) := by
    rw [Int.mul_pow, Int.mul_pow, ← Int.pow_mul, ← Int.pow_mul, ← Int.pow_mul, ← Int.pow_mul, Nat.mul_comm k, Nat.mul_comm m, Int.mul_assoc]
  rw [e] at h
  generalize (k : Int) * x ^ (k + m) + m * y ^ (k + m) = R at *
  generalize ((k : Int) + m) * (x ^ k * y ^ m) = L at *
  rcases Int.lt_or_le R L with hh | hh
  · exfalso
    have h1 : R.toNat ^ (k + m) < L.toNat ^ (k + m) := Nat.pow_lt_pow_left (by omega) (by omega)
    have h2 : ((R.toNat ^ (k + m) : Nat) : Int) < ((L.toNat ^ (k + m) : Nat) : Int) := by exact_mod_cast h1
    push_cast at h2
    rw [Int.toNat_of_nonneg hR, Int.toNat_of_nonneg hL] at h2
    omega
  · exact hh
/-- growing from the root on -/
theorem grows (i z B : Int) (k m : Nat) (hi : 0 ≤ i) (hz : i ≤ z) (hB : 0 ≤ B) (hk : 0 < k + m) (hr : ((k : Int) + m) * B ≤ i ^ k * m) : i ^ (k + m) * (z ^ k - B) ≤ z ^ (k + m) * (i ^ k - B) := by
  have h := mean2 z i (by omega) hi k m hk
  have hq : (0 : Int) < (k : Int) + m := by omega
  refine Int.le_of_mul_le_mul_left ?_ hq
  have hg : i ^ (k + m) ≤ z ^ (k + m) := by
    have h1 : i.toNat ^ (k + m) ≤ z.toNat ^ (k + m) := Nat.pow_le_pow_left (by omega) _
    have h2 : ((i.toNat ^ (k + m) : Nat) : Int) ≤ ((z.toNat ^ (k + m) : Nat) : Int) := by exact_mod_cast h1
    push_cast at h2
    rwa [Int.toNat_of_nonneg hi, Int.toNat_of_nonneg (by omega)] at h2
  have h3 := Int.mul_le_mul_of_nonneg_right hr (show 0 ≤ z ^ (k + m) - i ^ (k + m) by omega)
  have h4 := Int.mul_le_mul_of_nonneg_left h (pw_nn hi k)
  have e : i ^ (k + m) = i ^ k * i ^ m := Int.pow_add ..
  generalize z ^ (k + m) = Z at *
  generalize i ^ (k + m) = P at *
  generalize i ^ k = I at *
  generalize i ^ m = J at *
  generalize z ^ k = W at *
  generalize (k : Int) = a at *
  generalize (m : Int) = b at *
  have key : (a + b) * (Z * (I - B)) - (a + b) * (P * (W - B)) = (I * b * (Z - P) - (a + b) * B * (Z - P)) + (I * (a * Z + b * P) - I * ((a + b) * (W * J))) := by
    clear h h3 h4 hr hg
    subst e
    grind
  omega
theorem falls (i z B : Int) (k m : Nat) (hz0 : 0 ≤ z) (hz : z ≤ i) (hB : 0 ≤ B) (hk : 0 < k + m) (hr : i ^ k * m ≤ ((k : Int) + m) * B) : i ^ (k + m) * (z ^ k - B) ≤ z ^ (k + m) * (i ^ k - B) := by
  have h := mean2 z i hz0 (by omega) k m hk
  have hq : (0 : Int) < (k : Int) + m := by omega
  refine Int.le_of_mul_le_mul_left ?_ hq
  have hg : z ^ (k + m) ≤ i ^ (k + m) := by
    have h1 : z.toNat ^ (k + m) ≤ i.toNat ^ (k + m) := Nat.pow_le_pow_left (by omega) _
    have h2 : ((z.toNat ^ (k + m) : Nat) : Int) ≤ ((i.toNat ^ (k + m) : Nat) : Int) := by exact_mod_cast h1
    push_cast at h2
    rwa [Int.toNat_of_nonneg hz0, Int.toNat_of_nonneg (by omega)] at h2
  have h3 := Int.mul_le_mul_of_nonneg_right hr (show 0 ≤ i ^ (k + m) - z ^ (k + m) by omega)
  have h4 := Int.mul_le_mul_of_nonneg_left h (pw_nn (show 0 ≤ i by omega) k)
  have e : i ^ (k + m) = i ^ k * i ^ m := Int.pow_add ..
  generalize z ^ (k + m) = Z at *
  generalize i ^ (k + m) = P at *
  generalize i ^ k = I at *
  generalize i ^ m = J at *
  generalize z ^ k = W at *
  generalize (k : Int) = a at *
  generalize (m : Int) = b at *
  have key : (a + b) * (Z * (I - B)) - (a + b) * (P * (W - B)) = ((a + b) * B * (P - Z) - I * b * (P - Z)) + (I * (a * Z + b * P) - I * ((a + b) * (W * J))) := by
    clear h h3 h4 hr hg
    subst e
    grind
  omega
/-- never below the bound: X = x^k, Y = y^k -/
theorem above (X Y : Int) (hY : 0 ≤ Y) (hX : Y ≤ X) (k m : Nat) (hk : 0 < k) (hm : 0 < m) : ((k : Int) + m) ^ (k + m) * (X - Y) ^ k * Y ^ m ≤ (k : Int) ^ k * (m : Int) ^ m * X ^ (k + m) := by
  have h := mean ((X - Y) * m) (Y * k) (Int.mul_nonneg (by omega) (by omega)) (Int.mul_nonneg hY (by omega)) k m
  have e1 : (k : Int) * ((X - Y) * m) + m * (Y * k) = k * m * X := by grind
  rw [e1] at h
  have hp : 0 < (m : Int) ^ k * (k : Int) ^ m := Int.mul_pos (Int.pow_pos (by omega)) (Int.pow_pos (by omega))
  refine Int.le_of_mul_le_mul_left ?_ hp
  have e2 : (k * m * X : Int) ^ (k + m) = (m : Int) ^ k * (k : Int) ^ m * ((k : Int) ^ k * (m : Int) ^ m * X ^ (k + m)) := by
    rw [Int.mul_pow, Int.mul_pow, Int.pow_add (k : Int), Int.pow_add (m : Int)]
    generalize (k : Int) ^ k = a
    generalize (k : Int) ^ m = b
    generalize (m : Int) ^ k = c
    generalize (m : Int) ^ m = d
    grind
  have e3 : ((k : Int) + m) ^ (k + m) * ((X - Y) * m) ^ k * (Y * k) ^ m = (m : Int) ^ k * (k : Int) ^ m * (((k : Int) + m) ^ (k + m) * (X - Y) ^ k * Y ^ m) := by
    rw [Int.mul_pow, Int.mul_pow]
    generalize (k : Int) ^ m = b
    generalize (m : Int) ^ k = c
    generalize (X - Y) ^ k = d
    generalize ((k : Int) + m) ^ (k + m) = e
    grind
  rw [e2, e3] at h
  exact h
end MP.Am

namespace MP.Law
open PySem PySem.Spec PyProof.Rows L2 MP
section
variable {fu n : Nat} {st : Sto}
theorem isInt_ty {v : A} {t : String} (h : tyOfA v st = some t) : callN (pr fu) (n + 1) 0 [v] st = .ok (.bl (isTy t "int" && !isTy t "bool")) st := by
  rw [call_gen (a := 1) (b := 1) (body := b0 fu) rfl]
  unfold b0
  have e1 : ∀ T : String, fIsi [T] v st = .ok (.bl (isTy t T)) st := fun T => by
    unfold fIsi
    rw [h]
    simp
  simp [e1]
  cases isTy t "int" <;> simp
@[simp] theorem isInt_int (i : Int) : callN (pr fu) (n + 1) 0 [.int i] st = .ok (.bl true) st := by
  rw [isInt_ty (t := "int") rfl]
  rfl
theorem isBt_int (i a b : Int) : callN (pr fu) (n + 2) 1 [.int i, .int a, .int b] st = .ok (.bl (decide (a ≤ i ∧ i ≤ b))) st := by
  rw [call_gen (a := 3) (b := 3) (body := b1 fu) rfl]
  unfold b1
  simp
  by_cases h : a ≤ i
  · simp [h]
  · simp [h]
theorem isBt_bad {v : A} {t : String} {a b : Int} (h : tyOfA v st = some t) (h2 : (isTy t "int" && !isTy t "bool") = false) : callN (pr fu) (n + 2) 1 [v, .int a, .int b] st = .ok (.bl false) st := by
  rw [call_gen (a := 3) (b := 3) (body := b1 fu) rfl]
  unfold b1
  simp [isInt_ty h, h2]
/-- an int from 1 to 5 -/
theorem roads_ok {i : Int} (h : 1 ≤ i ∧ i ≤ 5) : callN (pr fu) (n + 3) 14 [.int i] st = .ok .non st := by
  rw [call_gen (a := 1) (b := 1) (body := b14 fu) rfl]
  unfold b14
  simp [isBt_int, h]
theorem walkers_ok {i : Int} (h : 1 ≤ i ∧ i ≤ 5) : callN (pr fu) (n + 3) 15 [.int i] st = .ok .non st := by
  rw [call_gen (a := 1) (b := 1) (body := b15 fu) rfl]
  unfold b15
  simp [isBt_int, h]
theorem asked_ok {i : Int} (h : 1 ≤ i ∧ i ≤ 5) : callN (pr fu) (n + 3) 16 [.int i] st = .ok .non st := by
  rw [call_gen (a := 1) (b := 1) (body := b16 fu) rfl]
  unfold b16
  simp [isBt_int, h]
/-- what is no number from 1 to 5 -/
def Bad (st : Sto) (v : A) : Prop := (∃ i, v = .int i ∧ ¬ (1 ≤ i ∧ i ≤ 5)) ∨ ∃ t, tyOfA v st = some t ∧ (isTy t "int" && !isTy t "bool") = false
theorem isBt_no {v : A} (h : Bad st v) : callN (pr fu) (n + 2) 1 [v, .int 1, .int 5] st = .ok (.bl false) st := by
  rcases h with ⟨i, rfl, h⟩ | ⟨t, h1, h2⟩
  · rw [isBt_int, decide_eq_false h]
  · exact isBt_bad h1 h2
theorem evS_rais1 {C : CallT} {env : En} {c f : Str} {i : Nat} {v : A} (h : env[i]? = some (some v)) : evS C (.rais c [f] (.cons (.var i) .nil)) env st = .ex c [(f, v)] env st := by
  rw [evS]
  simp [h]
theorem roads_no {v : A} (h : Bad st v) : callN (pr fu) (n + 3) 14 [v] st = .exc "InvalidRoads" [("given", v)] st := by
  rw [call_gen (a := 1) (b := 1) (body := b14 fu) rfl]
  unfold b14
  simp [isBt_no h, evS_rais1]
theorem walkers_no {v : A} (h : Bad st v) : callN (pr fu) (n + 3) 15 [v] st = .exc "InvalidWalkers" [("given", v)] st := by
  rw [call_gen (a := 1) (b := 1) (body := b15 fu) rfl]
  unfold b15
  simp [isBt_no h, evS_rais1]
theorem asked_no {v : A} (h : Bad st v) : callN (pr fu) (n + 3) 16 [v] st = .exc "InvalidAsked" [("given", v)] st := by
  rw [call_gen (a := 1) (b := 1) (body := b16 fu) rfl]
  unfold b16
  simp [isBt_no h, evS_rais1]
/-! ### fractions -/
theorem frac_of {a d : Int} (hd : 0 < d) (hl : d.natAbs.log2 < 9000) : callN (pr fu) (n + 1) 3 [.int a, .int d] st = .ok (.tup [.int (a / (Int.gcd a d : Int)), .int (d / (Int.gcd a d : Int))]) st := by
  have hg : 0 < (Int.gcd a d : Int) := by
    have := Int.gcd_pos_of_ne_zero_right a (show d ≠ 0 by omega)
    omega
  have hgl : ((Int.gcd a d : Nat) : Int).natAbs.log2 < 9000 := by
    have hle : Int.gcd a d ≤ d.natAbs := Nat.le_of_dvd (by omega) (Nat.gcd_dvd_right a.natAbs d.natAbs)
    rw [Int.natAbs_natCast]
    exact (Nat.log2_lt (by omega)).mpr (Nat.lt_of_le_of_lt hle ((Nat.log2_lt (by omega)).mp hl))
  rw [call_gen (a := 2) (b := 3) (body := b3 fu) rfl]
  unfold b3
  have e : ∀ s, fGcd [.int a, .int d] s = .ok (.int (Int.gcd a d : Int)) s := fun s => rfl
  generalize (Int.gcd a d : Int) = G at *
  simp [e, hd, hg, hgl]
theorem isFrac_ok {p q : Int} (hq : 0 < q) (hg : Int.gcd p q = 1) : callN (pr fu) (n + 2) 4 [.tup [.int p, .int q]] st = .ok (.bl true) st := by
  rw [call_gen (a := 1) (b := 1) (body := b4 fu) rfl]
  unfold b4
  have e2 : callN (pr fu) (n + 1) 2 [.tup [.int p, .int q], .int 2] st = .ok (.bl true) st := by
    rw [call_gen (a := 2) (b := 2) (body := b2 fu) rfl]
    unfold b2
    have e3 : fIsi ["tuple"] (.tup [.int p, .int q]) st = .ok (.bl true) st := rfl
    have e4 : fLen [.tup [.int p, .int q]] st = .ok (.int 2) st := rfl
    simp [e3, e4]
  have e5 : ((Nat.gcd p.natAbs q.natAbs : Nat) : Int) = 1 := by
    have : Nat.gcd p.natAbs q.natAbs = 1 := hg
    rw [this]
    rfl
  simp only [evSs_cons, evSs_nil, evS_ite, evS_ret, evE_or, evE_and, evE_p1, evE_p2, evE_pn, evE_call, evE_c, evE_var, evEs_cons, evEs_nil, Rs.bind_ok, permA_nil, List.map_cons, List.map_nil, List.length_cons, List.length_nil, Nat.reduceAdd, Nat.reduceSub, List.replicate_zero, List.append_nil, List.getElem?_cons_zero, slotR_some, e2, fNot_bl, asB_ok, isInt_int, fIx_two0, fIx_two1, fGcd_int, e5, fII_int, fEq_int, Rs.toS_ok]
  simp [hq]
  exact e5
theorem order_ok {a b c d : Int} (h1 : a.natAbs.log2 + d.natAbs.log2 < 1000000) (h2 : c.natAbs.log2 + b.natAbs.log2 < 1000000) :
    callN (pr fu) (n + 1) 9 [.tup [.int a, .int b], .tup [.int c, .int d]] st = .ok (.int ((if c * b < a * d then 1 else 0) - (if a * d < c * b then 1 else 0))) st := by
  rw [call_gen (a := 2) (b := 4) (body := b9 fu) rfl]
  unfold b9
  generalize hx : a * d = x
  generalize hy : c * b = y
  simp [h1, h2, hx, hy]
theorem lg1 : (1 : Int).natAbs.log2 = 0 := by decide
theorem diff_ok {a b c d : Int} (hb : 0 < b) (hd : 0 < d) (h1 : a.natAbs.log2 + d.natAbs.log2 < 1000000) (h2 : c.natAbs.log2 + b.natAbs.log2 < 1000000) (h3 : b.natAbs.log2 + d.natAbs.log2 < 1000000) (h4 : (b * d).natAbs.log2 < 9000) :
    callN (pr fu) (n + 2) 6 [.tup [.int a, .int b], .tup [.int c, .int d]] st = .ok (.tup [.int ((a * d - c * b) / (Int.gcd (a * d - c * b) (b * d) : Int)), .int (b * d / (Int.gcd (a * d - c * b) (b * d) : Int))]) st := by
  rw [call_gen (a := 2) (b := 2) (body := b6 fu) rfl]
  unfold b6
  have hbd : 0 < b * d := Int.mul_pos hb hd
  generalize hx : a * d = x at *
  generalize hy : c * b = y at *
  generalize hz : b * d = z at *
  simp [h1, h2, h3, hx, hy, hz, frac_of (fu := fu) (n := n) (st := st) hbd h4]
theorem times_ok {a b c d : Int} (hb : 0 < b) (hd : 0 < d) (h1 : a.natAbs.log2 + c.natAbs.log2 < 1000000) (h3 : b.natAbs.log2 + d.natAbs.log2 < 1000000) (h4 : (b * d).natAbs.log2 < 9000) :
    callN (pr fu) (n + 2) 7 [.tup [.int a, .int b], .tup [.int c, .int d]] st = .ok (.tup [.int (a * c / (Int.gcd (a * c) (b * d) : Int)), .int (b * d / (Int.gcd (a * c) (b * d) : Int))]) st := by
  rw [call_gen (a := 2) (b := 2) (body := b7 fu) rfl]
  unfold b7
  have hbd : 0 < b * d := Int.mul_pos hb hd
  generalize hx : a * c = x at *
  generalize hz : b * d = z at *
  simp [h1, h3, hx, hz, frac_of (fu := fu) (n := n) (st := st) hbd h4]
theorem over_ok {a b c d : Int} (hb : 0 < b) (hc : 0 < c) (h1 : a.natAbs.log2 + d.natAbs.log2 < 1000000) (h3 : b.natAbs.log2 + c.natAbs.log2 < 1000000) (h4 : (b * c).natAbs.log2 < 9000) :
    callN (pr fu) (n + 2) 8 [.tup [.int a, .int b], .tup [.int c, .int d]] st = .ok (.tup [.int (a * d / (Int.gcd (a * d) (b * c) : Int)), .int (b * c / (Int.gcd (a * d) (b * c) : Int))]) st := by
  rw [call_gen (a := 2) (b := 2) (body := b8 fu) rfl]
  unfold b8
  have hbd : 0 < b * c := Int.mul_pos hb hc
  generalize hx : a * d = x at *
  generalize hz : b * c = z at *
  simp [h1, h3, hx, hz, frac_of (fu := fu) (n := n) (st := st) hbd h4]
/-- powers by squares -/
theorem log2_pow2 {a : Int} {B k m : Nat} (h : a.natAbs < 2 ^ B) (hk : k ≤ m) : (a ^ k).natAbs.log2 ≤ B * m := by
  rw [Int.natAbs_pow]
  exact Nat.le_trans (log2_pow_le h k) (Nat.mul_le_mul_left _ hk)
theorem whole_ok {a k : Int} {B M : Nat} (h0 : 0 ≤ k) (hk : k.toNat ≤ M) (ha : a.natAbs < 2 ^ B) (hB : B * M < 400000) (hf : M + 2 ≤ fu) : callN (pr fu) (n + 1) 10 [.int a, .int k] st = .ok (.int (a ^ k.toNat)) st := by
  rw [call_gen (a := 2) (b := 5) (body := b10 fu) rfl]
  unfold b10
  have key : ∀ (C : CallT) (env : En), env = [some (.int a), some (.int k), some (.int 1), some (.int a), some (.int k)] → (evS C (.whl fu (.p2 fGtI (.var 4) (.c (.int 0))) (.cons (.asg (.name 2) (.cond (.p2 fEq (.p2 fMod (.var 4) (.c (.int 2))) (.c (.int 1))) (.p2 fMul (.var 2) (.var 3)) (.var 2))) (.cons (.asg (.name 4) (.p2 fDiv (.var 4) (.c (.int 2)))) (.cons (.asg (.name 3) (.cond (.p2 fGtI (.var 4) (.c (.int 0))) (.p2 fMul (.var 3) (.var 3)) (.var 3))) .nil)))) env st).is
      (fun e s => (∃ t u, e = [some (.int a), some (.int k), some (.int (a ^ k.toNat)), t, u]) ∧ s = st) (fun _ _ => False) noE noE := by
    intro C env he
    refine whl_is (fun e s => s = st ∧ ∃ (x y z : Int) (i j : Nat), e = [some (.int a), some (.int k), some (.int x), some (.int y), some (.int z)] ∧ 0 ≤ z ∧ x = a ^ i ∧ (0 < z → y = a ^ j) ∧ (i : Int) + j * z = k) (fun e _ => match e with
      | [_, _, _, _, some (.int z)] => z.natAbs
      | _ => 0) ?_ ⟨rfl, 1, a, k, 0, 1, he, h0, (Int.pow_zero a).symm, (fun _ => by rw [Int.pow_succ, Int.pow_zero, Int.one_mul]), by omega⟩ ?_
    · intro e s hh
      obtain ⟨hs, x, y, z, i, j, he1, hz, hx, hy, hij⟩ := hh
      subst hs
      refine ⟨decide (0 < z), s, by simp [he1], fun h => ?_, fun h => ?_⟩
      · have hz0 : z = 0 := by have := of_decide_eq_false h; omega
        have hi : i = k.toNat := by
          rw [hz0] at hij
          simp at hij
          omega
        exact ⟨⟨some (.int y), some (.int z), he1.trans (by rw [hx, hi])⟩, rfl⟩
      · have hz0 : 0 < z := of_decide_eq_true h
        have hy := hy hz0
        have hij2 : i + j ≤ M := by
          have : (j : Int) * 1 ≤ j * z := Int.mul_le_mul_of_nonneg_left (by omega) (by omega)
          omega
        have lx : x.natAbs.log2 ≤ B * M := by rw [hx]; exact log2_pow2 ha (by omega)
        have ly : y.natAbs.log2 ≤ B * M := by rw [hy]; exact log2_pow2 ha (by omega)
        have m1 : x.natAbs.log2 + y.natAbs.log2 < 1000000 := by omega
        have m2 : y.natAbs.log2 + y.natAbs.log2 < 1000000 := by omega
        have l2 : Nat.log2 2 < 9000 := by decide
        have hb : evSs C (.cons (.asg (.name 2) (.cond (.p2 fEq (.p2 fMod (.var 4) (.c (.int 2))) (.c (.int 1))) (.p2 fMul (.var 2) (.var 3)) (.var 2))) (.cons (.asg (.name 4) (.p2 fDiv (.var 4) (.c (.int 2)))) (.cons (.asg (.name 3) (.cond (.p2 fGtI (.var 4) (.c (.int 0))) (.p2 fMul (.var 3) (.var 3)) (.var 3))) .nil))) e s =
            .nx [some (.int a), some (.int k), some (.int (if z % 2 = 1 then x * y else x)), some (.int (if 0 < z / 2 then y * y else y)), some (.int (z / 2))] s := by
          rw [he1]
          by_cases c1 : z % 2 = 1
          · by_cases c2 : 0 < z / 2
            · simp [c1, c2, m1, m2, l2]
            · simp [c1, c2, m1, m2, l2]
          · by_cases c2 : 0 < z / 2
            · simp [c1, c2, m1, m2, l2]
            · simp [c1, c2, m1, m2, l2]
        rw [hb, SO.is_nx]
        refine ⟨⟨rfl, _, _, _, if z % 2 = 1 then i + j else i, j + j, rfl, by omega, ?_, ?_, ?_⟩, ?_⟩
        · by_cases c1 : z % 2 = 1
          · rw [if_pos c1, if_pos c1, hx, hy, Int.pow_add]
          · rw [if_neg c1, if_neg c1, hx]
        · intro h2
          rw [if_pos h2, hy, Int.pow_add]
        · have e2 : z = 2 * (z / 2) + z % 2 := by omega
          generalize z / 2 = w at e2 ⊢
          by_cases c1 : z % 2 = 1
          · rw [if_pos c1]
            rw [c1] at e2
            rw [e2] at hij
            push_cast
            rw [← hij, Int.mul_add, ← Int.mul_assoc, Int.mul_comm (j : Int) 2, Int.mul_assoc, Int.add_mul]
            omega
          · rw [if_neg c1]
            have c2 : z % 2 = 0 := by omega
            rw [c2] at e2
            rw [e2] at hij
            push_cast
            rw [← hij, Int.mul_add, ← Int.mul_assoc, Int.mul_comm (j : Int) 2, Int.mul_assoc, Int.add_mul]
            omega
        · rw [he1]
          show (z / 2).natAbs < z.natAbs
          omega
    · rw [he]
      show k.natAbs < fu
      omega
  generalize S.whl fu (.p2 fGtI (.var 4) (.c (.int 0))) (.cons (.asg (.name 2) (.cond (.p2 fEq (.p2 fMod (.var 4) (.c (.int 2))) (.c (.int 1))) (.p2 fMul (.var 2) (.var 3)) (.var 2))) (.cons (.asg (.name 4) (.p2 fDiv (.var 4) (.c (.int 2)))) (.cons (.asg (.name 3) (.cond (.p2 fGtI (.var 4) (.c (.int 0))) (.p2 fMul (.var 3) (.var 3)) (.var 3))) .nil))) = fs at key ⊢
  obtain ⟨e, s, he, ⟨t, u, rfl⟩, rfl⟩ := SO.is_one (key (callN (pr fu) n) _ rfl)
  simp [he]
theorem power_ok {a b k : Int} {B M : Nat} (h0 : 0 ≤ k) (hk : k.toNat ≤ M) (ha : a.natAbs < 2 ^ B) (hb : b.natAbs < 2 ^ B) (hB : B * M < 400000) (hf : M + 2 ≤ fu) : callN (pr fu) (n + 2) 11 [.tup [.int a, .int b], .int k] st = .ok (.tup [.int (a ^ k.toNat), .int (b ^ k.toNat)]) st := by
  rw [call_gen (a := 2) (b := 2) (body := b11 fu) rfl]
  unfold b11
  have e1 := fun st => whole_ok (fu := fu) (n := n) (st := st) h0 hk ha hB hf
  have e2 := fun st => whole_ok (fu := fu) (n := n) (st := st) h0 hk hb hB hf
  generalize a ^ k.toNat = x at *
  generalize b ^ k.toNat = y at *
  simp [e1, e2]
/-! ### the inequality -/
/-- what both sides ask -/
def KP (r w a p q : Int) : Bool := if a > w ∨ w ≥ r * a then decide (a ≤ w) else decide ((r * a) ^ (r * a).toNat * (2 * q) ^ w.toNat ≤ (p - q) ^ w.toNat * w ^ w.toNat * (r * a - w) ^ (r * a - w).toNat)
theorem natAbs_lt {i : Int} {B : Nat} (h0 : 0 ≤ i) (h : i < 2 ^ B) : i.natAbs < 2 ^ B := by
  have e : (i.natAbs : Int) = i := Int.natAbs_of_nonneg h0
  have : (i.natAbs : Int) < ((2 ^ B : Nat) : Int) := by rw [e]; push_cast; exact h
  exact_mod_cast this
theorem log2_lt_of {i : Int} {B : Nat} (h : i.natAbs < 2 ^ B) : i.natAbs.log2 ≤ B := by
  by_cases hi : i.natAbs = 0
  · rw [hi]
    have : Nat.log2 0 = 0 := by decide
    omega
  · have := (Nat.log2_lt hi).mpr h
    omega
theorem mul_bd {a b : Int} {A B : Nat} (ha : a.natAbs < 2 ^ A) (hb : b.natAbs < 2 ^ B) : (a * b).natAbs < 2 ^ (A + B) := by
  rw [Int.natAbs_mul, Nat.pow_add]
  exact Nat.mul_lt_mul'' ha hb
theorem pow_bd {a : Int} {A k m : Nat} (ha : a.natAbs < 2 ^ A) (hk : k ≤ m) : (a ^ k).natAbs < 2 ^ (A * m + 1) := by
  rw [Int.natAbs_pow]
  have h1 : a.natAbs ^ k ≤ (2 ^ A) ^ k := Nat.pow_le_pow_left (by omega) k
  rw [← Nat.pow_mul] at h1
  have h2 : 2 ^ (A * k) < 2 ^ (A * m + 1) := Nat.pow_lt_pow_right (by decide) (by have := Nat.mul_le_mul_left A hk; omega)
  omega
theorem keeps_ok {r w a p q : Int} (hr : 1 ≤ r ∧ r ≤ 5) (ha : 1 ≤ a ∧ a ≤ 5) (hw : 1 ≤ w ∧ w ≤ 30) (hq : 0 ≤ q) (hpq : q ≤ p) (hp : p < 2 ^ 600) :
    callN (pr fu) (n + 2) 42 [.int r, .int w, .int a, .tup [.int p, .int q]] st = .ok (.bl (KP r w a p q)) st := by
  rw [call_gen (a := 4) (b := 9) (body := b42 fu) rfl]
  unfold b42 KP
  have hra : 1 ≤ r * a ∧ r * a ≤ 25 := by
    constructor
    · have : (1 : Int) * 1 ≤ r * a := Int.mul_le_mul hr.1 ha.1 (by omega) (by omega)
      omega
    · have : r * a ≤ 5 * 5 := Int.mul_le_mul hr.2 ha.2 (by omega) (by omega)
      omega
  have lr : r.natAbs.log2 ≤ 5 := log2_lt_of (natAbs_lt (by omega) (by omega))
  have la : a.natAbs.log2 ≤ 5 := log2_lt_of (natAbs_lt (by omega) (by omega))
  have m0 : r.natAbs.log2 + a.natAbs.log2 < 1000000 := by omega
  generalize hW : r * a = W at *
  by_cases c1 : a > w
  · have c1' : w < a := c1
    have c2 : ¬ a ≤ w := by omega
    simp [m0, hW, c1', c2]
  · have c1' : ¬ w < a := c1
    by_cases c2 : w ≥ W
    · have c2' : W ≤ w := c2
      simp [m0, hW, c1', c2']
    · have c2' : ¬ W ≤ w := c2
      have bp : (p - q).natAbs < 2 ^ 600 := natAbs_lt (by omega) (by omega)
      have bq : (2 * q).natAbs < 2 ^ 601 := natAbs_lt (by omega) (by
        have : (2 : Int) ^ 601 = 2 ^ 600 * 2 := by rw [Int.pow_succ]
        omega)
      have bw : w.natAbs < 2 ^ 5 := natAbs_lt (by omega) (by omega)
      have bW : W.natAbs < 2 ^ 5 := natAbs_lt (by omega) (by omega)
      have bR : (W - w).natAbs < 2 ^ 5 := natAbs_lt (by omega) (by omega)
      have e1 := fun st => raised_ok (p := pr fu) (n := n) (f := 41) (st := st) (a := p - q) (k := w) (B := 600) rfl (by omega) (by omega) bp (by decide)
      have e2 := fun st => raised_ok (p := pr fu) (n := n) (f := 41) (st := st) (a := w) (k := w) (B := 5) rfl (by omega) (by omega) bw (by decide)
      have e3 := fun st => raised_ok (p := pr fu) (n := n) (f := 41) (st := st) (a := W - w) (k := W - w) (B := 5) rfl (by omega) (by omega) bR (by decide)
      have e4 := fun st => raised_ok (p := pr fu) (n := n) (f := 41) (st := st) (a := W) (k := W) (B := 5) rfl (by omega) (by omega) bW (by decide)
      have e5 := fun st => raised_ok (p := pr fu) (n := n) (f := 41) (st := st) (a := 2 * q) (k := w) (B := 601) rfl (by omega) (by omega) bq (by decide)
      have d1 := pow_bd bp (show w.toNat ≤ 30 by omega)
      have d2 := pow_bd bw (show w.toNat ≤ 30 by omega)
      have d3 := pow_bd bR (show (W - w).toNat ≤ 30 by omega)
      have d4 := pow_bd bW (show W.toNat ≤ 30 by omega)
      have d5 := pow_bd bq (show w.toNat ≤ 30 by omega)
      have d12 := mul_bd d1 d2
      generalize (p - q) ^ w.toNat = x1 at *
      generalize w ^ w.toNat = x2 at *
      generalize (W - w) ^ (W - w).toNat = x3 at *
      generalize W ^ W.toNat = x4 at *
      generalize (2 * q) ^ w.toNat = x5 at *
      have g1 := log2_lt_of d1
      have g2 := log2_lt_of d2
      have g3 := log2_lt_of d3
      have g4 := log2_lt_of d4
      have g5 := log2_lt_of d5
      have g12 := log2_lt_of d12
      have m1 : x1.natAbs.log2 + x2.natAbs.log2 < 1000000 := by omega
      have m2 : (x1 * x2).natAbs.log2 + x3.natAbs.log2 < 1000000 := by omega
      have m3 : x4.natAbs.log2 + x5.natAbs.log2 < 1000000 := by omega
      have lq : q.natAbs.log2 ≤ 600 := log2_lt_of (natAbs_lt hq (by omega))
      have m4 : Nat.log2 2 + q.natAbs.log2 < 1000000 := by
        have : Nat.log2 2 = 1 := by decide
        omega
      generalize hp2 : p - q = u at *
      generalize hq2 : 2 * q = v at *
      generalize hR : W - w = R at *
      generalize hx12 : x1 * x2 = x12 at *
      generalize hy1 : x12 * x3 = y1 at *
      generalize hy2 : x4 * x5 = y2 at *
      simp [m0, hW, c1', c2', m4, hp2, hq2, hR, e1, e2, e3, e4, e5, m1, m2, m3, hx12, hy1, hy2]
theorem one_pow' (k : Nat) : (1 : Int) ^ k = 1 := by
  induction k with
  | zero => rfl
  | succ k ih => rw [Int.pow_succ, ih]; rfl
theorem pow_pos' {a : Int} (h : 0 < a) (k : Nat) : 0 < a ^ k := by
  induction k with
  | zero => rw [Int.pow_zero]; decide
  | succ k ih => rw [Int.pow_succ]; exact Int.mul_pos ih h
theorem mul_pow' (a b : Int) (k : Nat) : (a * b) ^ k = a ^ k * b ^ k := by
  induction k with
  | zero => simp
  | succ k ih =>
    rw [Int.pow_succ, Int.pow_succ, Int.pow_succ, ih]
    ac_rfl
theorem powby_ok {W w : Int} (hw : 1 ≤ w) (hW : w < W) (hW2 : W ≤ 30) (hf : 100 ≤ fu) :
    callN (pr fu) (n + 3) 20 [.int W, .int w] st = .ok (.tup [.int (W ^ W.toNat / (Int.gcd (W ^ W.toNat) (w ^ w.toNat * (W - w) ^ (W - w).toNat) : Int)), .int (w ^ w.toNat * (W - w) ^ (W - w).toNat / (Int.gcd (W ^ W.toNat) (w ^ w.toNat * (W - w) ^ (W - w).toNat) : Int))]) st := by
  rw [call_gen (a := 2) (b := 4) (body := b20 fu) rfl]
  unfold b20
  have bw : w.natAbs < 2 ^ 5 := natAbs_lt (by omega) (by omega)
  have bW : W.natAbs < 2 ^ 5 := natAbs_lt (by omega) (by omega)
  have bR : (W - w).natAbs < 2 ^ 5 := natAbs_lt (by omega) (by omega)
  have b1 : (1 : Int).natAbs < 2 ^ 5 := by decide
  have p1 := fun st => power_ok (fu := fu) (n := n) (st := st) (a := w) (b := 1) (k := w) (B := 5) (M := 30) (by omega) (by omega) bw b1 (by decide) (by omega)
  have p2 := fun st => power_ok (fu := fu) (n := n) (st := st) (a := W - w) (b := 1) (k := W - w) (B := 5) (M := 30) (by omega) (by omega) bR b1 (by decide) (by omega)
  have p3 := fun st => power_ok (fu := fu) (n := n) (st := st) (a := W) (b := 1) (k := W) (B := 5) (M := 30) (by omega) (by omega) bW b1 (by decide) (by omega)
  have d1 := pow_bd bw (show w.toNat ≤ 30 by omega)
  have d2 := pow_bd bR (show (W - w).toNat ≤ 30 by omega)
  have d3 := pow_bd bW (show W.toNat ≤ 30 by omega)
  have q1 := pow_pos' (show 0 < w by omega) w.toNat
  have q2 := pow_pos' (show 0 < W - w by omega) (W - w).toNat
  rw [one_pow'] at p1 p2 p3
  generalize w ^ w.toNat = x at *
  generalize (W - w) ^ (W - w).toNat = y at *
  generalize W ^ W.toNat = z at *
  have g1 := log2_lt_of d1
  have g2 := log2_lt_of d2
  have g3 := log2_lt_of d3
  have d12 := mul_bd d1 d2
  have g12 := log2_lt_of d12
  have hxy := Int.mul_pos q1 q2
  have e1 := fun st => times_ok (fu := fu) (n := n) (st := st) (a := x) (b := 1) (c := y) (d := 1) (by decide) (by decide) (by omega) (by decide) (by decide)
  have e2 : ∀ k : Int, (Int.gcd k (1 * 1) : Int) = 1 := fun k => by simp
  simp only [e2, Int.ediv_one, Int.mul_one] at e1
  generalize x * y = D at *
  have e3 := fun st => over_ok (fu := fu) (n := n) (st := st) (a := z) (b := 1) (c := D) (d := 1) (by decide) hxy (by rw [lg1]; omega) (by rw [lg1]; omega) (by rw [Int.one_mul]; omega)
  simp only [Int.mul_one, Int.one_mul] at e3
  generalize hR : W - w = R at *
  generalize z / (Int.gcd z D : Int) = r1 at *
  generalize D / (Int.gcd z D : Int) = r2 at *
  simp [hR, p1, p2, p3, e1, e3]
theorem gcd_pos' {a d : Int} (hd : 0 < d) : 0 < (Int.gcd a d : Int) := by
  have := Int.gcd_pos_of_ne_zero_right a (show d ≠ 0 by omega)
  omega
theorem div_mul_gcd {a d : Int} : a / (Int.gcd a d : Int) * (Int.gcd a d : Int) = a := Int.ediv_mul_cancel (Int.gcd_dvd_left a d)
theorem div_mul_gcd' {a d : Int} : d / (Int.gcd a d : Int) * (Int.gcd a d : Int) = d := Int.ediv_mul_cancel (Int.gcd_dvd_right a d)
theorem pos_of_mul_pos {a g : Int} (h : 0 < a * g) (hg : 0 < g) : 0 < a := by
  by_cases ha : 0 < a
  · exact ha
  · have : a * g ≤ 0 := Int.mul_nonpos_of_nonpos_of_nonneg (by omega) (by omega)
    omega
theorem nonneg_of_mul {a g : Int} (h : 0 ≤ a * g) (hg : 0 < g) : 0 ≤ a := by
  by_cases ha : 0 ≤ a
  · exact ha
  · have : a * g < 0 := Int.mul_neg_of_neg_of_pos (by omega) hg
    omega
theorem le_of_mul {a g : Int} (h : 0 ≤ a) (hg : 0 < g) : a ≤ a * g := by
  have : a * 1 ≤ a * g := Int.mul_le_mul_of_nonneg_left (by omega) h
  omega
/-- the two inequalities are one -/
theorem ineq {P1 P2 g h1 h2 G A D x y : Int} {w : Nat} (hg : 0 < g) (hG : 0 < G) (e1 : P1 * g = A) (e2 : P2 * g = D) (e3 : h1 * G = x) (e4 : h2 * G = y) : (P1 * h2 ^ w ≤ h1 ^ w * P2) ↔ A * y ^ w ≤ x ^ w * D := by
  have hp : 0 < g * G ^ w := Int.mul_pos hg (pow_pos' hG w)
  rw [← e1, ← e2, ← e3, ← e4, mul_pow', mul_pow']
  have f1 : P1 * g * (h2 ^ w * G ^ w) = P1 * h2 ^ w * (g * G ^ w) := by ac_rfl
  have f2 : h1 ^ w * G ^ w * (P2 * g) = h1 ^ w * P2 * (g * G ^ w) := by ac_rfl
  rw [f1, f2]
  exact ⟨fun h => Int.mul_le_mul_of_nonneg_right h (by omega), fun h => Int.le_of_mul_le_mul_right h hp⟩
end
end MP.Law

namespace MP.Law
open PySem PySem.Spec PyProof.Rows L2 MP
section
variable {fu n : Nat} {st : Sto}
theorem same_int (a b : Int) : callN (pr fu) (n + 1) 36 [.int a, .int b] st = .ok (.bl (decide (a = b))) st := by
  rw [call_gen (a := 2) (b := 4) (body := b36 fu) rfl]
  unfold b36
  have e : ∀ Ts x (st : Sto), fIsi Ts (.int x) st = .ok (.bl (Ts.any fun T => isTy "int" T)) st := fun _ _ _ => rfl
  have t1 : isTy "int" "bool" = false := by decide
  have t2 : isTy "int" "int" = true := by decide
  simp [e, t1, t2]
theorem same_str (a b : Str) : callN (pr fu) (n + 1) 36 [.str a, .str b] st = .ok (.bl (decide (a = b))) st := by
  rw [call_gen (a := 2) (b := 4) (body := b36 fu) rfl]
  unfold b36
  have e : ∀ Ts x (st : Sto), fIsi Ts (.str x) st = .ok (.bl (Ts.any fun T => isTy "str" T)) st := fun _ _ _ => rfl
  have t1 : isTy "str" "bool" = false := by decide
  have t2 : isTy "str" "int" = false := by decide
  have t3 : isTy "str" "str" = true := by decide
  simp [e, t1, t2, t3]
theorem same_non : callN (pr fu) (n + 1) 36 [.non, .non] st = .ok (.bl true) st := by
  rw [call_gen (a := 2) (b := 4) (body := b36 fu) rfl]
  unfold b36
  simp
theorem same_true : callN (pr fu) (n + 1) 36 [.bl true, .bl true] st = .ok (.bl true) st := by
  rw [call_gen (a := 2) (b := 4) (body := b36 fu) rfl]
  unfold b36
  have e : ∀ Ts x (st : Sto), fIsi Ts (.bl x) st = .ok (.bl (Ts.any fun T => isTy "bool" T)) st := fun _ _ _ => rfl
  have t1 : isTy "bool" "bool" = true := by decide
  simp [e, t1]
theorem same_seq {v u : A} {t : String} {xs ys : List A} (ht : t = "list" ∨ t = "tuple") (h1 : tyOfA v st = some t) (h2 : tyOfA u st = some t) (i1 : itemsOf v st = some xs) (i2 : itemsOf u st = some ys) (hn : isNonA u = false) (hl : xs.length = ys.length) (hs : ys.length ≤ 1000)
    (hp : ∀ (k : Nat) (x y : A), xs[k]? = some x → ys[k]? = some y → callN (pr fu) n 36 [x, y] st = .ok (.bl true) st) : callN (pr fu) (n + 1) 36 [v, u] st = .ok (.bl true) (st ++ [.lst []] ++ [.lst []]) := by
  rw [call_gen (a := 2) (b := 4) (body := b36 fu) rfl]
  unfold b36
  obtain ⟨t1, t2, t3, t4, t5⟩ := isTy_seq ht
  have g1 := fun Ts => fIsi_ty (Ts := Ts) h1
  have g2 := fun Ts => fIsi_ty (Ts := Ts) h2
  have l1 := fLen_items i1
  have l2 := fLen_items i2
  rw [hl] at l1
  have key : ∀ env : En, env = [some v, some u, none, none] → evE (callN (pr fu) n) (.comp [3] itRange (.cons (.pn fLen (.cons (.var 1) .nil)) .nil) (.name 3) (.p1 fNot (.call 36 [] (.cons (.p2 fIx (.var 0) (.var 3)) (.cons (.p2 fIx (.var 1) (.var 3)) .nil)))) (.var 3)) env st = .ok (.ref st.length) (st ++ [.lst []]) := by
    intro env he
    generalize hN : (ys.length : Int) = N at l1 l2
    have hes : evEs (callN (pr fu) n) (.cons (.pn fLen (.cons (.var 1) .nil)) .nil) env st = .ok [.int N] st := by
      rw [he]
      simp [l2]
    have hit := itRange_one (k := N) (st := st) (by omega) (by omega)
    have e0 : ([] : List A) = (rngL 0 N.toNat 0).filterMap (fun _ => (none : Option A)) := by simp
    rw [e0]
    refine comp_rng (fun _ => none) hes hit (by omega) ?_
    intro i hi
    have hi2 : i < ys.length := by omega
    have hi1 : i < xs.length := by omega
    have hz : (0 + (i : Int)) = ((i : Nat) : Int) := by omega
    have x1 : atI xs (0 + (i : Int)) = some xs[i] := by rw [hz]; exact atI_nat (by simp [hi1])
    have x2 : atI ys (0 + (i : Int)) = some ys[i] := by rw [hz]; exact atI_nat (by simp [hi2])
    have y1 := fIx_items i1 x1
    have y2 := fIx_items i2 x2
    have y3 := hp i xs[i] ys[i] (by simp [hi1]) (by simp [hi2])
    generalize (0 + (i : Int)) = x at *
    rw [he]
    simp only [T.put, wipeE, List.set]
    simp [y1, y2, y3]
  generalize E.comp [3] itRange (.cons (.pn fLen (.cons (.var 1) .nil)) .nil) (.name 3) (.p1 fNot (.call 36 [] (.cons (.p2 fIx (.var 0) (.var 3)) (.cons (.p2 fIx (.var 1) (.var 3)) .nil)))) (.var 3) = ce at key ⊢
  have key := key _ rfl
  have e9 : fEq (.ref st.length) (.ref (st.length + 1)) (st ++ [.lst []] ++ [.lst []]) = .ok (.bl true) (st ++ [.lst []] ++ [.lst []]) := fEq_nil (by simp) (by simp)
  simp at e9
  generalize (ys.length : Int) = N at l1 l2
  simp [hn, g1, g2, t1, t2, t3, t4, t5, l1, l2, key, e9]
end
end MP.Law

set_option exponentiation.threshold 10000
namespace MP.Law
open PySem PySem.Spec PyProof.Rows L2 MP
section
variable {fu n : Nat} {st : Sto}
theorem ra_bd {r a : Int} (hr : 1 ≤ r ∧ r ≤ 5) (ha : 1 ≤ a ∧ a ≤ 5) : 1 ≤ r * a ∧ r * a ≤ 25 := by
  constructor
  · have : (1 : Int) * 1 ≤ r * a := Int.mul_le_mul hr.1 ha.1 (by omega) (by omega)
    omega
  · have : r * a ≤ 5 * 5 := Int.mul_le_mul hr.2 ha.2 (by omega) (by omega)
    omega
theorem m_ra {r a : Int} (hr : 1 ≤ r ∧ r ≤ 5) (ha : 1 ≤ a ∧ a ≤ 5) : r.natAbs.log2 + a.natAbs.log2 < 1000000 := by
  have lr : r.natAbs.log2 ≤ 5 := log2_lt_of (natAbs_lt (by omega) (by omega))
  have la : a.natAbs.log2 ≤ 5 := log2_lt_of (natAbs_lt (by omega) (by omega))
  omega
theorem fr3 : RedF (pr fu) 3 := frac_red rfl
theorem fr29 (hf : 2 ^ 8001 ≤ fu) : RedF (pr fu) 29 := low_red (fu := fu) rfl hf
theorem fu100 (hf : 2 ^ 8001 ≤ fu) : 100 ≤ fu := by
  have : (2 : Nat) ^ 10 ≤ 2 ^ 8001 := Nat.pow_le_pow_right (by decide) (by decide)
  have h2 : (2 : Nat) ^ 10 = 1024 := by decide
  omega
theorem nums_ok {r w a : Int} (hr : 1 ≤ r ∧ r ≤ 5) (hw : 1 ≤ w ∧ w ≤ 5) (ha : 1 ≤ a ∧ a ≤ 5) : callN (pr fu) (n + 4) 17 [.int r, .int w, .int a] st = .ok .non st := by
  rw [call_gen (a := 3) (b := 3) (body := b17 fu) rfl]
  unfold b17
  simp [roads_ok hr, walkers_ok hw, asked_ok ha]
theorem team_ok {r w a : Int} (hr : 1 ≤ r ∧ r ≤ 5) (hw : 1 ≤ w ∧ w ≤ 5) (ha : 1 ≤ a ∧ a ≤ w) : callN (pr fu) (n + 5) 18 [.int r, .int w, .int a] st = .ok .non st := by
  rw [call_gen (a := 3) (b := 3) (body := b18 fu) rfl]
  unfold b18
  have h : ¬ w < a := by omega
  simp [nums_ok hr hw (show 1 ≤ a ∧ a ≤ 5 by omega), h]
theorem bottom_ok {b : Int} (hb : 1 ≤ b) : callN (pr fu) (n + 2) 19 [.int b] st = .ok .non st := by
  rw [call_gen (a := 1) (b := 1) (body := b19 fu) rfl]
  unfold b19
  have h : ¬ b < 1 := by omega
  simp [h]
/-! ### the bound's power -/
def pbA (W : Int) : Int := W ^ W.toNat
def pbD (W w : Int) : Int := w ^ w.toNat * (W - w) ^ (W - w).toNat
theorem pbA_pos {W : Int} (h : 0 < W) : 0 < pbA W := Int.pow_pos h
theorem pbD_pos {W w : Int} (h : 0 < w) (h2 : w < W) : 0 < pbD W w := Int.mul_pos (Int.pow_pos h) (Int.pow_pos (by omega))
theorem pby_ok {W w : Int} (hw : 1 ≤ w) (hW : w < W) (hW2 : W ≤ 30) (hf : 100 ≤ fu) : callN (pr fu) (n + 3) 20 [.int W, .int w] st = .ok (fA (red (pbA W) (pbD W w))) st := powby_ok hw hW hW2 hf
theorem bd5 {i : Int} (h0 : 0 ≤ i) (h : i ≤ 31) : i.natAbs < 2 ^ 5 := natAbs_lt h0 (by omega)
theorem pby_bd {W w : Int} (hw : 1 ≤ w) (hW : w < W) (hW2 : W ≤ 30) : Fr 302 (red (pbA W) (pbD W w)) := by
  have h1 := bd_pow (bd5 (show 0 ≤ W by omega) (by omega)) (show W.toNat ≤ 30 by omega)
  have h2 := bd_pow (bd5 (show 0 ≤ w by omega) (by omega)) (show w.toNat ≤ 30 by omega)
  have h3 := bd_pow (bd5 (show 0 ≤ W - w by omega) (by omega)) (show (W - w).toNat ≤ 30 by omega)
  exact red_bd (pbD_pos (by omega) hW) (bd_mono h1 (by decide)) (bd_mono (bd_mul h2 h3) (by decide))
/-! ### a whole root over a number -/
theorem rb_ok {A D k d : Int} {B Bd K : Nat} (hK : k.toNat ≤ K) (hD : 0 < D) (hA : 0 ≤ A) (hk : 1 ≤ k ∧ k ≤ 30) (hd : 0 < d) (bx : Fr B (red A D)) (bd : d.natAbs < 2 ^ Bd) (hB : B + (Bd * K + 1) ≤ 7000) (hf : 2 ^ 8001 ≤ fu) :
    ∃ i, callN (pr fu) (n + 3) 13 [fA (red A D), .int k, .int d] st = .ok (fA (red i d)) st ∧ 0 ≤ i ∧ i ^ k.toNat * D ≤ A * d ^ k.toNat ∧ A * d ^ k.toNat < (i + 1) ^ k.toNat * D ∧ i.natAbs < 2 ^ (B + (Bd * K + 1)) := by
  rw [call_gen (a := 3) (b := 3) (body := b13 fu) rfl]
  unfold b13
  have hx := red_x (a := A) hD
  have hn := red_nn hD hA
  generalize red A D = X at *
  have hp := bx.p
  have hBd : 0 < Bd := by
    rcases Nat.eq_zero_or_pos Bd with h | h
    · subst h
      rw [Nat.pow_zero] at bd
      omega
    · exact h
  have hK7 : K ≤ 7000 := by
    have := Nat.mul_le_mul_right K hBd
    omega
  have e1 := fun st => wp_fn (p := pr fu) (f := 10) (fu := fu) (n := n + 1) (st := st) (a := d) (k := k) (B := Bd) (M := K) rfl (by omega) hK bd (by omega) (by
    have : (2 : Nat) ^ 13 ≤ 2 ^ 8001 := Nat.pow_le_pow_right (by decide) (by decide)
    have h2 : (2 : Nat) ^ 13 = 8192 := by decide
    have h3 : K ≤ 7000 := hK7
    generalize (2 : Nat) ^ 8001 = u1 at *
    omega)
  have bdk := bd_pow bd hK
  have hdk : 0 < d ^ k.toNat := Int.pow_pos hd
  have m1 := lg_mul bx.n bdk hB
  have lx2 := bd_log bx.d
  have xn := bx.n
  obtain ⟨x, y⟩ := X
  dsimp only at hx hn hp m1 lx2 xn
  generalize hZ : d ^ k.toNat = Z at *
  have hxZ : 0 ≤ x * Z := Int.mul_nonneg hn (Int.le_of_lt hdk)
  have hN0 : 0 ≤ x * Z / y := Int.ediv_nonneg hxZ (Int.le_of_lt hp)
  have hN1 : x * Z / y ≤ x * Z := Int.ediv_le_self y hxZ
  have bN : (x * Z / y).natAbs < 2 ^ (B + (Bd * K + 1)) := by
    have := bd_mul xn bdk
    omega
  have hf2 : 2 ^ (B + (Bd * K + 1) + 2) + 100 ≤ fu := by
    have h1 : (2 : Nat) ^ (B + (Bd * K + 1) + 2) ≤ 2 ^ 8000 := Nat.pow_le_pow_right (by decide) (by omega)
    have h2 : (2 : Nat) ^ 8001 = 2 ^ 8000 * 2 := Nat.pow_succ 2 8000
    have h3 : (2 : Nat) ^ 10 ≤ 2 ^ 8000 := Nat.pow_le_pow_right (by decide) (by decide)
    have h4 : (2 : Nat) ^ 10 = 1024 := by decide
    generalize (2 : Nat) ^ 8001 = u1 at *
    generalize (2 : Nat) ^ 8000 = u2 at *
    omega
  obtain ⟨i, e2, i0, iN, i1, i2⟩ := root_fn (p := pr fu) (f := 12) (w := 10) (fu := fu) (n := n) (st := st) (N := x * Z / y) (k := k) rfl rfl hk hN0 bN hB hf2
  have e3 := (fr3 (fu := fu)).ok (n + 1) st i d hd (bd_mono bd (by
    have := Nat.le_mul_of_pos_right Bd (show 0 < K by omega)
    omega))
  rw [Int.le_ediv_iff_mul_le hp] at i1
  rw [Int.ediv_lt_iff_lt_mul hp] at i2
  refine ⟨i, ?_, i0, ?_, ?_, by omega⟩
  · have ly : y.natAbs.log2 < 9000 := by omega
    generalize hm : x * Z = m at *
    generalize hq : m / y = q at *
    generalize red i d = R at *
    simp [e1, m1, hm, hp, ly, hq, e2, e3]
  · generalize i ^ k.toNat = I at *
    have h := Int.mul_le_mul_of_nonneg_right i1 (Int.le_of_lt hD)
    refine Int.le_of_mul_le_mul_right (a := y) ?_ hp
    have t1 : I * y * D = I * D * y := by ac_rfl
    have t2 : x * Z * D = A * Z * y := by
      rw [show x * Z * D = x * D * Z by ac_rfl, hx]
      ac_rfl
    rw [← t1, ← t2]
    exact h
  · generalize (i + 1) ^ k.toNat = I at *
    have h := Int.mul_lt_mul_of_pos_right i2 hD
    refine Int.lt_of_mul_lt_mul_right (a := y) ?_ (Int.le_of_lt hp)
    have t1 : I * y * D = I * D * y := by ac_rfl
    have t2 : x * Z * D = A * Z * y := by
      rw [show x * Z * D = x * D * Z by ac_rfl, hx]
      ac_rfl
    rw [← t1, ← t2]
    exact h
/-- the neighbor below the bound -/
def IsAt (W w b i : Int) : Prop := 0 ≤ i ∧ ((W ≤ w ∧ i = 0) ∨ (w < W ∧ i ^ w.toNat * pbD W w ≤ pbA W * (2 * b) ^ w.toNat ∧ pbA W * (2 * b) ^ w.toNat < (i + 1) ^ w.toNat * pbD W w))
theorem pw_mono {a b : Int} (h0 : 0 ≤ a) (h : a ≤ b) (k : Nat) : a ^ k ≤ b ^ k := by
  have h1 : a.toNat ^ k ≤ b.toNat ^ k := Nat.pow_le_pow_left (by omega) k
  have h2 : ((a.toNat ^ k : Nat) : Int) ≤ ((b.toNat ^ k : Nat) : Int) := by exact_mod_cast h1
  push_cast at h2
  rwa [Int.toNat_of_nonneg h0, Int.toNat_of_nonneg (by omega)] at h2
theorem IsAt.le {W w b i j : Int} (hw : 0 < w) (h : IsAt W w b i) (h' : IsAt W w b j) : i ≤ j := by
  rcases h.2 with ⟨h1, rfl⟩ | ⟨h1, h2, h3⟩
  · exact h'.1
  · rcases h'.2 with ⟨z, _⟩ | ⟨_, h4, h5⟩
    · omega
    · rcases Int.lt_or_le j i with hh | hh
      · exfalso
        have := pw_mono (show 0 ≤ j + 1 by have := h'.1; omega) (show j + 1 ≤ i by omega) w.toNat
        have := Int.mul_le_mul_of_nonneg_right this (Int.le_of_lt (pbD_pos hw h1))
        omega
      · exact hh
theorem IsAt.uniq {W w b i j : Int} (hw : 0 < w) (h : IsAt W w b i) (h' : IsAt W w b j) : i = j := Int.le_antisymm (h.le hw h') (h'.le hw h)
theorem f1 : fA (1, 1) = .tup [.int 1, .int 1] := rfl
theorem f2 : fA (2, 1) = .tup [.int 2, .int 1] := rfl
theorem fr1 {k : Nat} (h : 0 < k) : Fr k (1, 1) := ⟨by decide, Nat.one_lt_two_pow (by omega), Nat.one_lt_two_pow (by omega)⟩
theorem fr2 : Fr 2 (2, 1) := ⟨by decide, by decide, by decide⟩
theorem next_ok {b i : Int} {B : Nat} (hb : 0 < b) (hB : Fr B (red i b)) (hb2 : b.natAbs < 2 ^ 60) (h : B ≤ 6000) : callN (pr fu) (n + 2) 5 [fA (red i b), .tup [.int 1, .int b]] st = .ok (fA (red (i + 1) b)) st := by
  have e := pl_fn (p := pr fu) (f := 5) (l := 3) (n := n) (st := st) (x := red i b) (y := (1, b)) rfl fr3 hB (show Fr 60 (1, b) from ⟨hb, Nat.one_lt_two_pow (by decide), hb2⟩) (by omega)
  have e2 : pl (red i b) (1, b) = red (i + 1) b := by
    have : ((1, b) : Fq) = red 1 b := by
      rw [red_low hb]
      exact Int.one_gcd
    rw [this, pl_red hb hb]
    refine red_eq (Int.mul_pos hb hb) hb ?_
    grind
  rw [e2] at e
  exact e
theorem between_ok {r w a b : Int} (hr : 1 ≤ r ∧ r ≤ 5) (hw : 1 ≤ w ∧ w ≤ 5) (ha : 1 ≤ a ∧ a ≤ w) (hb : 1 ≤ b) (hb2 : b.natAbs < 2 ^ 60) (hf : 2 ^ 8001 ≤ fu) :
    ∃ i, IsAt (r * a) w b i ∧ callN (pr fu) (n + 6) 21 [.int r, .int w, .int a, .int b] st = .ok (.tup [fA (red (b + i) b), fA (red (b + i + 1) b)]) st := by
  have m0 := m_ra hr (show 1 ≤ a ∧ a ≤ 5 by omega)
  have hra := ra_bd hr (show 1 ≤ a ∧ a ≤ 5 by omega)
  have et := fun st => team_ok (fu := fu) (n := n) (st := st) hr hw ha
  have eb := fun st => bottom_ok (fu := fu) (n := n + 3) (st := st) hb
  rw [call_gen (a := 4) (b := 6) (body := b21 fu) rfl]
  unfold b21
  generalize hW : r * a = W at *
  by_cases hlt : w < W
  · have bb : (2 * b).natAbs < 2 ^ 61 := by
      rw [show (2 : Nat) ^ 61 = 2 ^ 60 * 2 from rfl]
      omega
    obtain ⟨i, e1, i0, i1, i2, ib⟩ := rb_ok (fu := fu) (n := n + 2) (st := st) (k := w) (d := 2 * b) (K := 5) (by omega) (pbD_pos (show 0 < w by omega) hlt) (Int.le_of_lt (pbA_pos (show 0 < W by omega))) (by omega) (by omega) (pby_bd (by omega) hlt (by omega)) bb (by decide) hf
    have e0 := fun st => pby_ok (fu := fu) (n := n + 2) (st := st) (W := W) (w := w) (by omega) hlt (by omega) (fu100 hf)
    have h2b : 0 < 2 * b := by omega
    have F1 : Fr 608 (red i (2 * b)) := red_bd h2b ib (bd_mono bb (by decide))
    have e2 := fun st => ti_fn (p := pr fu) (f := 7) (l := 3) (n := n + 3) (st := st) rfl fr3 fr2 F1 (by decide)
    have F2 := ti_bd fr2 F1
    have e3 := fun st => pl_fn (p := pr fu) (f := 5) (l := 3) (n := n + 3) (st := st) rfl fr3 (fr1 (k := 1) (by decide)) F2 (by decide)
    have F3 := pl_bd (fr1 (k := 1) (by decide)) F2
    have hlo : pl (1, 1) (ti (2, 1) (red i (2 * b))) = red (b + i) b := by
      rw [one_red, two_red, ti_red (by decide) h2b, pl_red (by decide) (by omega)]
      refine red_eq (by omega) (by omega) ?_
      grind
    rw [hlo] at e3 F3
    have e4 := fun st => next_ok (fu := fu) (n := n + 3) (st := st) (by omega) F3 hb2 (by decide)
    refine ⟨i, ⟨i0, .inr ⟨hlt, i1, i2⟩⟩, ?_⟩
    have l2 : Nat.log2 2 = 1 := by decide
    have lb := bd_log hb2
    have m1 : Nat.log2 2 + b.natAbs.log2 < 1000000 := by omega
    rw [f1, f2] at *
    generalize red (pbA W) (pbD W w) = P at *
    generalize h2bb : 2 * b = bb2 at *
    generalize red i bb2 = R at *
    generalize ti (2, 1) R = TT at *
    generalize red (b + i) b = LO at *
    generalize red (b + i + 1) b = HI at *
    simp [et, eb, m0, hW, hlt, e0, m1, h2bb, e1, e2, e3, e4]
  · refine ⟨0, ⟨by omega, .inl ⟨by omega, rfl⟩⟩, ?_⟩
    have hone : red (b + 0) b = (1, 1) := by
      rw [one_red]
      exact red_eq (by omega) (by decide) (by omega)
    have e4 := fun st => next_ok (fu := fu) (n := n + 3) (st := st) (b := b) (i := b + 0) (B := 1) (by omega) (by rw [hone]; exact fr1 (by decide)) hb2 (by decide)
    rw [hone] at e4 ⊢
    rw [f1] at *
    generalize red (b + 0 + 1) b = HI at *
    simp [et, eb, m0, hW, hlt, e4]
end
end MP.Law

set_option exponentiation.threshold 10000
namespace MP.Law
open PySem PySem.Spec PyProof.Rows L2 MP
section
variable {fu n : Nat} {st : Sto}
/-- the ratio that a base tells -/
def RB (W w : Int) (x : Fq) : Fq := pl (1, 1) (ti (2, 1) (ov (pwq x W.toNat) (mi (pwq x w.toNat) (1, 1))))
structure Base (B : Nat) (x : Fq) : Prop where
  fr : Fr B x
  gt : x.2 < x.1
theorem pw_lt {a b : Int} (h0 : 0 ≤ a) (h : a < b) {k : Nat} (hk : 0 < k) : a ^ k < b ^ k := by
  have h1 : a.toNat ^ k < b.toNat ^ k := Nat.pow_lt_pow_left (by omega) (by omega)
  have h2 : ((a.toNat ^ k : Nat) : Int) < ((b.toNat ^ k : Nat) : Int) := by exact_mod_cast h1
  push_cast at h2
  rwa [Int.toNat_of_nonneg h0, Int.toNat_of_nonneg (by omega)] at h2
/-- the ratio, not in lowest terms -/
def RBn (W w : Int) (x y : Int) : Int := y ^ W.toNat * (x ^ w.toNat - y ^ w.toNat) + 2 * (x ^ W.toNat * y ^ w.toNat)
def RBd (W w : Int) (x y : Int) : Int := y ^ W.toNat * (x ^ w.toNat - y ^ w.toNat)
theorem RBd_pos {W w x y : Int} (hw : 0 < w) (hy : 0 < y) (hxy : y < x) : 0 < RBd W w x y := by
  have := pw_lt (Int.le_of_lt hy) hxy (k := w.toNat) (by omega)
  exact Int.mul_pos (Int.pow_pos hy) (by omega)
theorem pwq_red {a d : Int} (hd : 0 < d) (k : Nat) : pwq (red a d) k = red (a ^ k) (d ^ k) := red_pow hd k
theorem RB_red {W w a d : Int} (hw : 0 < w) (hd : 0 < d) (hda : d < a) : RB W w (red a d) = red (RBn W w a d) (RBd W w a d) := by
  unfold RB
  have h1 := pw_lt (Int.le_of_lt hd) hda (k := w.toNat) (by omega)
  have p1 : 0 < d ^ w.toNat := Int.pow_pos hd
  have p2 : 0 < d ^ W.toNat := Int.pow_pos hd
  have p3 := RBd_pos (W := W) hw hd hda
  rw [pwq_red hd, pwq_red hd, one_red, two_red, mi_red p1 (by decide), ov_red p2 (by omega) (by omega), ti_red (by decide) (Int.mul_pos p2 (by omega)), pl_red (by decide) (by
    have : 0 < d ^ W.toNat * (a ^ w.toNat * 1 - 1 * d ^ w.toNat) := Int.mul_pos p2 (by omega)
    omega)]
  unfold RBn RBd at *
  have p4 : 0 < d ^ W.toNat * (a ^ w.toNat * 1 - 1 * d ^ w.toNat) := Int.mul_pos p2 (by omega)
  refine red_eq (by omega) p3 ?_
  grind
theorem mi_pos {x y : Fq} (hx : 0 < x.2) (hy : 0 < y.2) (h : y.1 * x.2 < x.1 * y.2) : 0 < (mi x y).1 := by
  unfold mi
  exact posm (by rw [red_1]; omega) (gcd_pp (Int.mul_pos hx hy))
structure RBs (W w : Int) (x : Fq) (B : Nat) : Prop where
  a1 : Fr (B * 30 + 1) (pwq x W.toNat)
  a2 : Fr (B * 5 + 1) (pwq x w.toNat)
  a3 : Fr (B * 5 + 3) (mi (pwq x w.toNat) (1, 1))
  h0 : 0 < (mi (pwq x w.toNat) (1, 1)).1
  a4 : Fr (B * 35 + 4) (ov (pwq x W.toNat) (mi (pwq x w.toNat) (1, 1)))
  a5 : Fr (B * 35 + 6) (ti (2, 1) (ov (pwq x W.toNat) (mi (pwq x w.toNat) (1, 1))))
  a6 : Fr (B * 35 + 8) (RB W w x)
theorem RB_bd {W w : Int} {x : Fq} {B : Nat} (hW : W.toNat ≤ 30) (hw : 1 ≤ w ∧ w ≤ 5) (hx : Base B x) : RBs W w x B := by
  have a1 := pw_bd hx.fr hW
  have a2 := pw_bd hx.fr (show w.toNat ≤ 5 by omega)
  have a3 := mi_bd a2 (fr1 (k := 1) (by decide))
  have h0 : 0 < (mi (pwq x w.toNat) (1, 1)).1 := by
    refine mi_pos a2.p (by decide) ?_
    show 1 * x.2 ^ w.toNat < x.1 ^ w.toNat * 1
    have := pw_lt (Int.le_of_lt hx.fr.p) hx.gt (k := w.toNat) (by omega)
    omega
  have a4 := ov_bd a1 a3 h0
  have a5 := ti_bd fr2 a4
  have a6 := pl_bd (fr1 (k := 1) (by decide)) a5
  exact ⟨a1, a2, a3.mono (by omega), h0, a4.mono (by omega), a5.mono (by omega), a6.mono (by omega)⟩
theorem rob_ok {W w : Int} {x : Fq} {B : Nat} (hW : 0 ≤ W ∧ W ≤ 30) (hw : 1 ≤ w ∧ w ≤ 5) (hx : Base B x) (hB : B ≤ 190) (hf : 2 ^ 8001 ≤ fu) : callN (pr fu) (n + 3) 22 [.int W, .int w, fA x] st = .ok (fA (RB W w x)) st := by
  have h := RB_bd (W := W) (w := w) (by omega) hw hx
  have h100 := fu100 hf
  rw [call_gen (a := 3) (b := 4) (body := b22 fu) rfl]
  unfold b22
  have e1 := fun st => pow_fn (p := pr fu) (f := 11) (w := 10) (fu := fu) (n := n) (st := st) (k := w) (M := 5) rfl rfl (by omega) (by omega) hx.fr (by omega) (by omega)
  have e2 := fun st => mi_fn (p := pr fu) (f := 6) (l := 3) (n := n) (st := st) rfl fr3 h.a2 (fr1 (k := 1) (by decide)) (by omega)
  have e3 := fun st => pow_fn (p := pr fu) (f := 11) (w := 10) (fu := fu) (n := n) (st := st) (k := W) (M := 30) rfl rfl (by omega) (by omega) hx.fr (by omega) (by omega)
  have e4 := fun st => ov_fn (p := pr fu) (f := 8) (l := 3) (n := n) (st := st) rfl fr3 h.a1 h.a3 h.h0 (by omega)
  have e5 := fun st => ti_fn (p := pr fu) (f := 7) (l := 3) (n := n) (st := st) rfl fr3 fr2 h.a4 (by omega)
  have e6 := fun st => pl_fn (p := pr fu) (f := 5) (l := 3) (n := n) (st := st) rfl fr3 (fr1 (k := 1) (by decide)) h.a5 (by omega)
  unfold RB
  rw [f1, f2] at *
  generalize pwq x w.toNat = y1 at *
  generalize mi y1 (1, 1) = y2 at *
  generalize pwq x W.toNat = y3 at *
  generalize ov y3 y2 = y4 at *
  generalize ti (2, 1) y4 = y5 at *
  generalize pl (1, 1) y5 = y6 at *
  simp [e1, e2, e3, e4, e5, e6]
theorem lrb_ok {r w a : Int} {x : Fq} {B : Nat} (hr : 1 ≤ r ∧ r ≤ 5) (ha : 1 ≤ a ∧ a ≤ 5) (hw : 1 ≤ w ∧ w ≤ 5) (hx : Base B x) (hB : B ≤ 190) (hf : 2 ^ 8001 ≤ fu) : callN (pr fu) (n + 3) 47 [.int r, .int w, .int a, fA x] st = .ok (fA (RB (r * a) w x)) st := by
  have m0 := m_ra hr ha
  have hra := ra_bd hr ha
  generalize hWW : r * a = W at *
  have h := RB_bd (W := W) (w := w) (by omega) hw hx
  have h29 := fr29 (fu := fu) hf
  rw [call_gen (a := 4) (b := 5) (body := b47 fu) rfl]
  unfold b47
  have e1 := fun st => lpow_fn (p := pr fu) (f := 35) (n := n + 1) (st := st) (k := w) rfl (by omega) (by omega) hx.fr (by omega)
  have e2 := fun st => mi_fn (p := pr fu) (f := 31) (l := 29) (n := n) (st := st) rfl h29 h.a2 (fr1 (k := 1) (by decide)) (by omega)
  have e3 := fun st => lpow_fn (p := pr fu) (f := 35) (n := n + 1) (st := st) (k := W) rfl (by omega) (by omega) hx.fr (by omega)
  have e4 := fun st => ov_fn (p := pr fu) (f := 33) (l := 29) (n := n) (st := st) rfl h29 h.a1 h.a3 h.h0 (by omega)
  have e5 := fun st => ti_fn (p := pr fu) (f := 32) (l := 29) (n := n) (st := st) rfl h29 fr2 h.a4 (by omega)
  have e6 := fun st => pl_fn (p := pr fu) (f := 30) (l := 29) (n := n) (st := st) rfl h29 (fr1 (k := 1) (by decide)) h.a5 (by omega)
  unfold RB
  rw [f1, f2] at *
  generalize pwq x w.toNat = y1 at *
  generalize mi y1 (1, 1) = y2 at *
  generalize pwq x W.toNat = y3 at *
  generalize ov y3 y2 = y4 at *
  generalize ti (2, 1) y4 = y5 at *
  generalize pl (1, 1) y5 = y6 at *
  simp [m0, hWW, e1, e2, e3, e4, e5, e6]
/-- base_ratio of a base -/
theorem baseratio_ok {r w a : Int} {x : Fq} {B : Nat} (hr : 1 ≤ r ∧ r ≤ 5) (hw : 1 ≤ w ∧ w ≤ 5) (ha : 1 ≤ a ∧ a ≤ w) (hx : Base B x) (hg : Int.gcd x.1 x.2 = 1) (hB : B ≤ 190) (hf : 2 ^ 8001 ≤ fu) : callN (pr fu) (n + 6) 23 [.int r, .int w, .int a, fA x] st = .ok (fA (RB (r * a) w x)) st := by
  have m0 := m_ra hr (show 1 ≤ a ∧ a ≤ 5 by omega)
  have hra := ra_bd hr (show 1 ≤ a ∧ a ≤ 5 by omega)
  have et := fun st => team_ok (fu := fu) (n := n) (st := st) hr hw ha
  have e1 := fun st => isFrac_ok (fu := fu) (n := n + 3) (st := st) hx.fr.p hg
  have e2 := fun st => order_fn (p := pr fu) (f := 9) (n := n + 4) (st := st) rfl hx.fr (fr1 (k := 1) (by decide)) (by omega)
  have h3 : ¬ ordq x (1, 1) ≤ 0 := by
    rw [ordq_le]
    have := hx.gt
    show ¬ x.1 * 1 ≤ 1 * x.2
    omega
  generalize hWW : r * a = W at *
  have e3 := fun st => rob_ok (fu := fu) (n := n + 2) (st := st) (W := W) (w := w) (by omega) hw hx hB hf
  rw [call_gen (a := 4) (b := 4) (body := b23 fu) rfl]
  unfold b23
  change ∀ st, callN (pr fu) (n + 5) 4 [fA x] st = _ at e1
  rw [f1] at e2
  generalize ordq x (1, 1) = oo at *
  generalize RB W w x = R at *
  simp [et, m0, hWW, e1, e2, h3, e3]
end
end MP.Law

set_option exponentiation.threshold 10000
namespace MP.Law
open PySem PySem.Spec PyProof.Rows L2 MP
theorem fin_top : ∀ w ∈ [1, 2, 3, 4, 5], ∀ W ∈ List.range 26, w < W → W ^ W ≤ 511 ^ w * (w ^ w * (W - w) ^ (W - w)) := by decide +kernel
def ir (N w : Nat) : Nat → Nat → Nat
  | 0, c => c
  | k + 1, c => ir N w k (if (c + 2 ^ k) ^ w ≤ N then c + 2 ^ k else c)
theorem fin_no : ∀ w ∈ [1, 2, 3, 4, 5], ∀ W ∈ List.range 26, w < W → W % w ≠ 0 → (ir (W ^ W * (w ^ w * (W - w) ^ (W - w)) ^ (w - 1)) w 125 0) ^ w < W ^ W * (w ^ w * (W - w) ^ (W - w)) ^ (w - 1) ∧ W ^ W * (w ^ w * (W - w) ^ (W - w)) ^ (w - 1) < (ir (W ^ W * (w ^ w * (W - w) ^ (W - w)) ^ (w - 1)) w 125 0 + 1) ^ w := by decide +kernel
theorem nat_of {w W : Int} (hw : 1 ≤ w ∧ w ≤ 5) (hW : w < W) (hW2 : W ≤ 25) : ∃ k m : Nat, w = k ∧ W = m ∧ k ∈ [1, 2, 3, 4, 5] ∧ m ∈ List.range 26 ∧ k < m ∧ pbA W = ((m ^ m : Nat) : Int) ∧ pbD W w = ((k ^ k * (m - k) ^ (m - k) : Nat) : Int) := by
  refine ⟨w.toNat, W.toNat, by omega, by omega, ?_, List.mem_range.mpr (by omega), by omega, ?_, ?_⟩
  · have : w.toNat = 1 ∨ w.toNat = 2 ∨ w.toNat = 3 ∨ w.toNat = 4 ∨ w.toNat = 5 := by omega
    simpa using this
  · unfold pbA
    push_cast
    rw [Int.toNat_of_nonneg (by omega)]
  · unfold pbD
    have e1 : ((W.toNat - w.toNat : Nat) : Int) = W - w := by omega
    have e2 : (W - w).toNat = W.toNat - w.toNat := by omega
    push_cast
    rw [e1, e2, Int.toNat_of_nonneg (by omega)]
/-- can t / b be kept -/
def J (W w b t : Int) : Prop := pbA W * (2 * b) ^ w.toNat ≤ (t - b) ^ w.toNat * pbD W w
theorem not_J {W w b : Int} (hw : 1 ≤ w) (hW : w < W) (hb : 0 < b) : ¬ J W w b b := by
  unfold J
  have h1 : 0 < pbA W * (2 * b) ^ w.toNat := Int.mul_pos (pbA_pos (by omega)) (Int.pow_pos (by omega))
  rw [Int.sub_self, Int.zero_pow (by omega)]
  omega
theorem J_top {W w b : Int} (hw : 1 ≤ w ∧ w ≤ 5) (hW : w < W) (hW2 : W ≤ 25) (hb : 0 < b) {t : Int} (ht : 1024 * b ≤ t) : J W w b t := by
  obtain ⟨k, m, rfl, rfl, hk, hm, hkm, eA, eD⟩ := nat_of hw hW hW2
  have h := fin_top k hk m hm hkm
  unfold J
  rw [eA, eD]
  have h2 : ((m ^ m : Nat) : Int) ≤ 511 ^ k * ((k ^ k * (m - k) ^ (m - k) : Nat) : Int) := by
    have : ((m ^ m : Nat) : Int) ≤ ((511 ^ k * (k ^ k * (m - k) ^ (m - k)) : Nat) : Int) := by exact_mod_cast h
    push_cast at this ⊢
    exact this
  generalize ((m ^ m : Nat) : Int) = Aa at *
  have hD0 : 0 ≤ ((k ^ k * (m - k) ^ (m - k) : Nat) : Int) := Int.natCast_nonneg _
  generalize ((k ^ k * (m - k) ^ (m - k) : Nat) : Int) = D at *
  rw [Int.toNat_natCast]
  have h3 := Int.mul_le_mul_of_nonneg_right h2 (show 0 ≤ (2 * b) ^ k from Int.le_of_lt (Int.pow_pos (by omega)))
  have h4 : (511 : Int) ^ k * (2 * b) ^ k = (1022 * b) ^ k := by
    rw [← Int.mul_pow, show (511 : Int) * (2 * b) = 1022 * b by omega]
  have h5 := Int.mul_le_mul_of_nonneg_right (pw_mono (show 0 ≤ 1022 * b by omega) (show 1022 * b ≤ t - b by omega) k) hD0
  rw [← h4] at h5
  have h6 : 511 ^ k * D * (2 * b) ^ k = 511 ^ k * (2 * b) ^ k * D := by ac_rfl
  omega
/-- where the walkers don't divide it, the bound is no fraction -/
theorem no_eq {W w b j : Int} (hw : 1 ≤ w ∧ w ≤ 5) (hW : w < W) (hW2 : W ≤ 25) (hb : 0 < b) (hj : 0 ≤ j) (hm : W % w ≠ 0) : pbA W * (2 * b) ^ w.toNat ≠ j ^ w.toNat * pbD W w := by
  obtain ⟨k, m, rfl, rfl, hk, hmm, hkm, eA, eD⟩ := nat_of hw hW hW2
  have hmod : m % k ≠ 0 := by
    intro h
    apply hm
    exact_mod_cast congrArg (fun z : Nat => (z : Int)) h
  have h := fin_no k hk m hmm hkm hmod
  generalize ir (m ^ m * (k ^ k * (m - k) ^ (m - k)) ^ (k - 1)) k 125 0 = c at h
  rw [eA, eD, Int.toNat_natCast]
  obtain ⟨y, rfl⟩ : ∃ y : Nat, b = y := ⟨b.toNat, by omega⟩
  obtain ⟨x, rfl⟩ : ∃ x : Nat, j = x := ⟨j.toNat, by omega⟩
  intro he
  have he2 : m ^ m * (2 * y) ^ k = x ^ k * (k ^ k * (m - k) ^ (m - k)) := by
    have : ((m ^ m * (2 * y) ^ k : Nat) : Int) = ((x ^ k * (k ^ k * (m - k) ^ (m - k)) : Nat) : Int) := by
      push_cast at he ⊢
      exact he
    exact_mod_cast this
  generalize k ^ k * (m - k) ^ (m - k) = D at *
  generalize m ^ m = Aa at *
  obtain ⟨q, rfl⟩ : ∃ q, k = q + 1 := ⟨k - 1, by omega⟩
  rw [show q + 1 - 1 = q from rfl] at h
  have e1 : (x * D) ^ (q + 1) = Aa * D ^ q * (2 * y) ^ (q + 1) := by
    rw [Nat.mul_pow, Nat.pow_succ D, show x ^ (q + 1) * (D ^ q * D) = x ^ (q + 1) * D * D ^ q by ac_rfl, ← he2]
    ac_rfl
  have hdvd : (2 * y) ∣ (x * D) := (Nat.pow_dvd_pow_iff (n := q + 1) (by omega)).mp ⟨Aa * D ^ q, by rw [e1]; ac_rfl⟩
  obtain ⟨z, hz⟩ := hdvd
  rw [hz, Nat.mul_pow] at e1
  have hpos : 0 < (2 * y) ^ (q + 1) := Nat.pow_pos (by omega)
  have e2 : z ^ (q + 1) = Aa * D ^ q := by
    refine Nat.eq_of_mul_eq_mul_left hpos ?_
    rw [e1]
    ac_rfl
  rw [← e2] at h
  have h1 : c < z := by
    rcases Nat.lt_or_ge c z with g | g
    · exact g
    · have := Nat.pow_le_pow_left g (q + 1)
      omega
  have h2 : z < c + 1 := by
    rcases Nat.lt_or_ge z (c + 1) with g | g
    · exact g
    · have := Nat.pow_le_pow_left g (q + 1)
      omega
  omega
/-- where they divide it -/
theorem yes_eq {w c b j : Int} (hw : 1 ≤ w ∧ w ≤ 5) (hc : 2 ≤ c) (hb : 0 < b) (hj : 0 ≤ j) : pbA (w * c) * (2 * b) ^ w.toNat = j ^ w.toNat * pbD (w * c) w ↔ j * (c - 1) ^ (c - 1).toNat = 2 * c ^ c.toNat * b := by
  have hwc : (w * c).toNat = w.toNat * c.toNat := by
    obtain ⟨x, rfl⟩ : ∃ x : Nat, w = x := ⟨w.toNat, by omega⟩
    obtain ⟨y, rfl⟩ : ∃ y : Nat, c = y := ⟨c.toNat, by omega⟩
    rw [← Int.natCast_mul, Int.toNat_natCast, Int.toNat_natCast, Int.toNat_natCast]
  have hwc2 : (w * c - w).toNat = w.toNat * (c - 1).toNat := by
    obtain ⟨x, rfl⟩ : ∃ x : Nat, w = x := ⟨w.toNat, by omega⟩
    obtain ⟨y, rfl⟩ : ∃ y : Nat, c = y + 1 := ⟨c.toNat - 1, by omega⟩
    rw [show (x : Int) * ((y : Int) + 1) - x = x * y by grind, ← Int.natCast_mul, show ((y : Int) + 1) - 1 = y by omega, Int.toNat_natCast, Int.toNat_natCast, Int.toNat_natCast]
  have e3 : w * c - w = w * (c - 1) := by grind
  have pm : ∀ (a : Int) (i j : Nat), a ^ (i * j) = (a ^ i) ^ j := fun a i j => Int.pow_mul ..
  have ek : w.toNat + w.toNat * (c - 1).toNat = w.toNat * c.toNat := by
    have : c.toNat = (c - 1).toNat + 1 := by omega
    rw [this, Nat.mul_add]
    omega
  have eD : pbD (w * c) w = w ^ (w.toNat * c.toNat) * ((c - 1) ^ (c - 1).toNat) ^ w.toNat := by
    unfold pbD
    rw [hwc2, e3, Int.mul_pow, ← Int.mul_assoc, ← Int.pow_add, ek, Nat.mul_comm w.toNat (c - 1).toNat, pm (c - 1)]
  have eA : pbA (w * c) = w ^ (w.toNat * c.toNat) * (c ^ c.toNat) ^ w.toNat := by
    unfold pbA
    rw [hwc, Int.mul_pow, Nat.mul_comm w.toNat c.toNat, pm c]
  have hp : 0 < w ^ (w.toNat * c.toNat) := Int.pow_pos (by omega)
  have c1 : 0 < (c - 1) ^ (c - 1).toNat := Int.pow_pos (by omega)
  have c2 : 0 < c ^ c.toNat := Int.pow_pos (by omega)
  rw [eD, eA]
  generalize (c - 1) ^ (c - 1).toNat = K2 at *
  generalize c ^ c.toNat = K1 at *
  generalize w ^ (w.toNat * c.toNat) = P at *
  have a1 : P * K1 ^ w.toNat * (2 * b) ^ w.toNat = P * (2 * K1 * b) ^ w.toNat := by
    rw [Int.mul_assoc, ← Int.mul_pow, show K1 * (2 * b) = 2 * K1 * b by grind]
  have a2 : j ^ w.toNat * (P * K2 ^ w.toNat) = P * (j * K2) ^ w.toNat := by
    rw [Int.mul_pow]
    ac_rfl
  rw [a1, a2]
  have n1 : 0 ≤ 2 * K1 * b := Int.mul_nonneg (by omega) (by omega)
  have n2 : 0 ≤ j * K2 := Int.mul_nonneg hj (by omega)
  constructor
  · intro h
    have h2 := Int.eq_of_mul_eq_mul_left (Int.ne_of_gt hp) h
    rcases Int.lt_trichotomy (2 * K1 * b) (j * K2) with g | g | g
    · have := pw_lt n1 g (k := w.toNat) (by omega)
      omega
    · exact g.symm
    · have := pw_lt n2 g (k := w.toNat) (by omega)
      omega
  · intro h
    rw [h]
end MP.Law

set_option exponentiation.threshold 10000
namespace MP.Law
open PySem PySem.Spec PyProof.Rows L2 MP
section
variable {fu n : Nat} {st : Sto}
theorem keepsq_ok {r w a : Int} {x : Fq} {B : Nat} (hr : 1 ≤ r ∧ r ≤ 5) (hw : 1 ≤ w ∧ w ≤ 5) (ha : 1 ≤ a ∧ a ≤ w) (hx : Fr B x) (hB : B ≤ 8000) :
    callN (pr fu) (n + 2) 42 [.int r, .int w, .int a, fA x] st = .ok (.bl (decide (r * a ≤ w ∨ pbA (r * a) * (2 * x.2) ^ w.toNat ≤ (x.1 - x.2) ^ w.toNat * pbD (r * a) w))) st := by
  rw [call_gen (a := 4) (b := 9) (body := b42 fu) rfl]
  unfold b42
  have m0 := m_ra hr (show 1 ≤ a ∧ a ≤ 5 by omega)
  have hra := ra_bd hr (show 1 ≤ a ∧ a ≤ 5 by omega)
  generalize hW : r * a = W at *
  have c1 : ¬ w < a := by omega
  by_cases c2 : W ≤ w
  · simp [m0, hW, c1, c2, ha.2]
  · obtain ⟨p, q⟩ := x
    have xp := hx.p
    have xn := hx.n
    have xd := hx.d
    dsimp only at xp xn xd
    have bp : (p - q).natAbs < 2 ^ (B + 1) := bd_sub xn xd
    have bq : (2 * q).natAbs < 2 ^ (B + 1) := by rw [Nat.pow_succ]; omega
    have bw := bd5 (show 0 ≤ w by omega) (by omega)
    have bW := bd5 (show 0 ≤ W by omega) (by omega)
    have bR := bd5 (show 0 ≤ W - w by omega) (by omega)
    have e1 := fun st => raised_fn (p := pr fu) (n := n) (f := 41) (st := st) (a := p - q) (k := w) (M := 5) rfl (by omega) (by omega) (by omega) bp (by omega)
    have e2 := fun st => raised_fn (p := pr fu) (n := n) (f := 41) (st := st) (a := w) (k := w) (M := 5) rfl (by omega) (by omega) (by omega) bw (by omega)
    have e3 := fun st => raised_fn (p := pr fu) (n := n) (f := 41) (st := st) (a := W - w) (k := W - w) (M := 30) rfl (by omega) (by omega) (by omega) bR (by omega)
    have e4 := fun st => raised_fn (p := pr fu) (n := n) (f := 41) (st := st) (a := W) (k := W) (M := 30) rfl (by omega) (by omega) (by omega) bW (by omega)
    have e5 := fun st => raised_fn (p := pr fu) (n := n) (f := 41) (st := st) (a := 2 * q) (k := w) (M := 5) rfl (by omega) (by omega) (by omega) bq (by omega)
    have d1 := bd_pow bp (show w.toNat ≤ 5 by omega)
    have d2 := bd_pow bw (show w.toNat ≤ 5 by omega)
    have d3 := bd_pow bR (show (W - w).toNat ≤ 30 by omega)
    have d4 := bd_pow bW (show W.toNat ≤ 30 by omega)
    have d5 := bd_pow bq (show w.toNat ≤ 5 by omega)
    have d12 := bd_mul d1 d2
    have l2 : Nat.log2 2 = 1 := by decide
    have lq := bd_log xd
    have m4 : Nat.log2 2 + q.natAbs.log2 < 1000000 := by omega
    have m1 := lg_mul2 d1 d2 (by omega)
    have m2 := lg_mul2 d12 d3 (by omega)
    have m3 := lg_mul2 d4 d5 (by omega)
    have hfin : ((p - q) ^ w.toNat * w ^ w.toNat * (W - w) ^ (W - w).toNat) = (p - q) ^ w.toNat * pbD W w := by
      unfold pbD
      rw [Int.mul_assoc]
    unfold pbA
    rw [← hfin]
    generalize (p - q) ^ w.toNat = x1 at *
    generalize w ^ w.toNat = x2 at *
    generalize (W - w) ^ (W - w).toNat = x3 at *
    generalize W ^ W.toNat = x4 at *
    generalize (2 * q) ^ w.toNat = x5 at *
    generalize hp2 : p - q = u at *
    generalize hq2 : 2 * q = v at *
    generalize hR : W - w = R at *
    generalize hx12 : x1 * x2 = x12 at *
    generalize hy1 : x12 * x3 = y1 at *
    generalize hy2 : x4 * x5 = y2 at *
    simp [m0, hW, c1, c2, m4, hp2, hq2, hR, e1, e2, e3, e4, e5, m1, m2, m3, hx12, hy1, hy2]
theorem J_red {W w b t : Int} (hb : 0 < b) : pbA W * (2 * (red t b).2) ^ w.toNat ≤ ((red t b).1 - (red t b).2) ^ w.toNat * pbD W w ↔ J W w b t := by
  unfold J
  have h1 := red_1 t b
  have h2 := red_2 t b
  have hg := gcd_pp (a := t) hb
  generalize (red t b).1 = p at *
  generalize (red t b).2 = q at *
  generalize (Int.gcd t b : Int) = g at *
  subst h1 h2
  have hgk : 0 < g ^ w.toNat := Int.pow_pos hg
  have e1 : pbA W * (2 * (q * g)) ^ w.toNat = pbA W * (2 * q) ^ w.toNat * g ^ w.toNat := by
    rw [← Int.mul_assoc, mul_pow' (2 * q) g, Int.mul_assoc]
  have e2 : (p * g - q * g) ^ w.toNat * pbD W w = (p - q) ^ w.toNat * pbD W w * g ^ w.toNat := by
    rw [← Int.sub_mul, Int.mul_pow]
    ac_rfl
  rw [e1, e2]
  exact ⟨fun h => Int.mul_le_mul_of_nonneg_right h (Int.le_of_lt hgk), fun h => Int.le_of_mul_le_mul_right h hgk⟩
instance {W w b t : Int} : Decidable (J W w b t) := by unfold J; infer_instance
/-- the law's question at t / b -/
theorem ask_ok {r w a b t : Int} (hr : 1 ≤ r ∧ r ≤ 5) (hw : 1 ≤ w ∧ w ≤ 5) (ha : 1 ≤ a ∧ a ≤ w) (hW : w < r * a) (hb : 0 < b) (hb2 : b.natAbs < 2 ^ 60) (ht : t.natAbs < 2 ^ 500) (hf : 2 ^ 8001 ≤ fu) :
    callN (pr fu) (n + 2) 29 [.int t, .int b] st = .ok (fA (red t b)) st ∧ callN (pr fu) (n + 2) 42 [.int r, .int w, .int a, fA (red t b)] st = .ok (.bl (decide (J (r * a) w b t))) st := by
  refine ⟨(fr29 hf).ok (n + 1) st t b hb (bd_mono hb2 (by decide)), ?_⟩
  rw [keepsq_ok hr hw ha (red_bd (B := 500) hb ht (bd_mono hb2 (by decide))) (by decide)]
  have : decide (r * a ≤ w ∨ pbA (r * a) * (2 * (red t b).2) ^ w.toNat ≤ ((red t b).1 - (red t b).2) ^ w.toNat * pbD (r * a) w) = decide (J (r * a) w b t) := by
    rw [decide_eq_decide, J_red hb]
    exact ⟨fun h => h.resolve_left (by omega), .inr⟩
  rw [this]
theorem fEq_fA {x y : Fq} : fEq (fA x) (fA y) st = .ok (.bl (decide (x = y))) st := by
  have t1 : ∀ x : Fq, toD eqFuel st (fA x) = some (.tuple ([x.1, x.2].map PyData.int)) := fun x => by
    rw [show eqFuel = 995 + 1 + 1 + 1 + 1 + 1 from rfl]
    simp [toD, toDs, fA]
  have t2 : ∀ x : Fq, SeqAt.shaped (.tuple ([x.1, x.2].map PyData.int)) = true := fun x => by
    unfold SeqAt.shaped
    simp [PyData.canLay0, PyData.canLayAll0, PyData.depth, PyData.depthAll]
  show (match toD eqFuel st (fA x), toD eqFuel st (fA y) with
    | some d, some e => if SeqAt.shaped d = true ∧ SeqAt.shaped e = true then Rs.ok (A.bl (PyData.eqv d e)) st else .bad
    | _, _ => .bad) = _
  rw [t1, t1]
  dsimp only
  rw [if_pos ⟨t2 x, t2 y⟩]
  have e3 : PyData.eqv (.tuple ([x.1, x.2].map PyData.int)) (.tuple ([y.1, y.2].map PyData.int)) = decide (x = y) := by
    obtain ⟨a, b⟩ := x
    obtain ⟨c, d⟩ := y
    simp [PyData.eqv, PyData.eqvAll]
    by_cases h1 : a = c <;> by_cases h2 : b = d <;> simp [h1, h2]
  rw [e3]
/-- the bound, where it is a fraction -/
def bndX (W w : Int) : A := if W % w = 0 then fA (red ((W / w - 1) ^ (W / w - 1).toNat + 2 * (W / w) ^ (W / w).toNat) ((W / w - 1) ^ (W / w - 1).toNat)) else .non
theorem bnd_ok {r w a : Int} (hr : 1 ≤ r ∧ r ≤ 5) (hw : 1 ≤ w ∧ w ≤ 5) (ha : 1 ≤ a ∧ a ≤ 5) (hW : w < r * a) (hf : 2 ^ 8001 ≤ fu) :
    ∃ P, callN (pr fu) (n + 4) 43 [.int r, .int w, .int a] st = .ok (.tup [P, bndX (r * a) w]) st := by
  rw [call_gen (a := 3) (b := 7) (body := b43 fu) rfl]
  unfold b43
  have m0 := m_ra hr ha
  have hra := ra_bd hr ha
  generalize hWW : r * a = W at *
  have hWw : ¬ W ≤ w := by omega
  have bw := bd5 (show 0 ≤ w by omega) (by omega)
  have bW := bd5 (show 0 ≤ W by omega) (by omega)
  have bR := bd5 (show 0 ≤ W - w by omega) (by omega)
  have e2 := fun st => raised_fn (p := pr fu) (n := n + 2) (f := 41) (st := st) (a := w) (k := w) (M := 5) rfl (by omega) (by omega) (by omega) bw (by omega)
  have e3 := fun st => raised_fn (p := pr fu) (n := n + 2) (f := 41) (st := st) (a := W - w) (k := W - w) (M := 30) rfl (by omega) (by omega) (by omega) bR (by omega)
  have e4 := fun st => raised_fn (p := pr fu) (n := n + 2) (f := 41) (st := st) (a := W) (k := W) (M := 30) rfl (by omega) (by omega) (by omega) bW (by omega)
  have d2 := bd_pow bw (show w.toNat ≤ 30 by omega)
  have d3 := bd_pow bR (show (W - w).toNat ≤ 30 by omega)
  have m1 := lg_mul2 d2 d3 (by decide)
  have d23 := bd_mul d2 d3
  have q23 : 0 < w ^ w.toNat * (W - w) ^ (W - w).toNat := Int.mul_pos (Int.pow_pos (by omega)) (Int.pow_pos (by omega))
  have e5 := (fr29 hf).ok (n + 2) st (W ^ W.toNat) (w ^ w.toNat * (W - w) ^ (W - w).toNat) q23 (bd_mono d23 (by decide))
  generalize w ^ w.toNat = x2 at *
  generalize (W - w) ^ (W - w).toNat = x3 at *
  generalize W ^ W.toNat = x4 at *
  generalize hD : x2 * x3 = D at *
  generalize red x4 D = RD at *
  have hw0 : 0 < w := by omega
  have lw : w.natAbs.log2 < 9000 := by have := bd_log bw; omega
  generalize hR : W - w = R at *
  unfold bndX
  by_cases hm : W % w = 0
  · have hdiv : W = w * (W / w) + W % w := (Int.mul_ediv_add_emod W w).symm
    have he1 : 2 ≤ W / w := by
      have h1 : w * 1 < w * (W / w) := by omega
      have := Int.lt_of_mul_lt_mul_left h1 (by omega)
      omega
    have he2 : W / w ≤ W := Int.ediv_le_self w (by omega)
    generalize hcc : W / w = c at *
    have bc := bd5 (show 0 ≤ c by omega) (by omega)
    have bc1 := bd5 (show 0 ≤ c - 1 by omega) (by omega)
    have e6 := fun st => raised_fn (p := pr fu) (n := n + 2) (f := 41) (st := st) (a := c) (k := c) (M := 30) rfl (by omega) (by omega) (by omega) bc (by omega)
    have e7 := fun st => raised_fn (p := pr fu) (n := n + 2) (f := 41) (st := st) (a := c - 1) (k := c - 1) (M := 30) rfl (by omega) (by omega) (by omega) bc1 (by omega)
    have d6 := bd_pow bc (show c.toNat ≤ 30 by omega)
    have d7 := bd_pow bc1 (show (c - 1).toNat ≤ 30 by omega)
    have q7 : 0 < (c - 1) ^ (c - 1).toNat := Int.pow_pos (by omega)
    generalize c ^ c.toNat = y6 at *
    generalize (c - 1) ^ (c - 1).toNat = y7 at *
    have l2 : Nat.log2 2 = 1 := by decide
    have lg6 := bd_log d6
    have m2 : Nat.log2 2 + y6.natAbs.log2 < 1000000 := by omega
    have b26 : (2 * y6).natAbs < 2 ^ 152 := by
      rw [show (2 : Nat) ^ 152 = 2 ^ (5 * 30 + 1) * 2 from rfl]
      omega
    have F8 : Fr 152 (red (2 * y6) y7) := red_bd q7 b26 (bd_mono d7 (by decide))
    have e8 := fun st => (fr29 hf).ok (n + 2) st (2 * y6) y7 q7 (bd_mono d7 (by decide))
    have e9 := fun st => pl_fn (p := pr fu) (f := 30) (l := 29) (n := n + 1) (st := st) rfl (fr29 hf) (fr1 (k := 1) (by decide)) F8 (by decide)
    have hX : pl (1, 1) (red (2 * y6) y7) = red (y7 + 2 * y6) y7 := by
      rw [one_red, pl_red (by decide) q7]
      refine red_eq (by omega) q7 ?_
      grind
    rw [hX, f1] at e9
    refine ⟨fA RD, ?_⟩
    generalize red (y7 + 2 * y6) y7 = RX at *
    generalize hy : 2 * y6 = yy at *
    generalize red yy y7 = RY at *
    generalize hc1 : c - 1 = c1 at *
    simp [m0, hWW, hWw, hR, e2, e3, e4, m1, hD, e5, hw0, lw, hm, hcc, e6, e7, m2, hy, hc1, e8, e9]
  · refine ⟨fA RD, ?_⟩
    simp [m0, hWW, hWw, hR, e2, e3, e4, m1, hD, e5, hw0, lw, hm]
end
end MP.Law

set_option exponentiation.threshold 10000
namespace MP.Law
open PySem PySem.Spec PyProof.Rows L2 MP
section
variable {fu n : Nat} {st : Sto}
def l1K : S := .for_ itRange (.cons (.c (.int 400)) .nil) (.name 6) (.cons (.ite (.call 42 [] (.cons (.var 0) (.cons (.var 1) (.cons (.var 2) (.cons (.call 29 [] (.cons (.var 5) (.cons (.var 3) .nil))) .nil))))) (.cons (.brk) .nil) (.nil)) (.cons (.asg (.tup [.name 4, .name 5]) (.pn fTup (.cons (.var 5) (.cons (.p2 fMul (.c (.int 2)) (.var 5)) .nil)))) .nil))
def l2K : S := .for_ itRange (.cons (.c (.int 400)) .nil) (.name 6) (.cons (.ite (.p2 fEq (.p2 fSub (.var 5) (.var 4)) (.c (.int 1))) (.cons (.brk) .nil) (.nil)) (.cons (.asg (.name 7) (.p2 fDiv (.p2 fAdd (.var 4) (.var 5)) (.c (.int 2)))) (.cons (.ite (.call 42 [] (.cons (.var 0) (.cons (.var 1) (.cons (.var 2) (.cons (.call 29 [] (.cons (.var 7) (.cons (.var 3) .nil))) .nil))))) (.cons (.asg (.name 5) (.var 7)) .nil) (.cons (.asg (.name 4) (.var 7)) .nil)) .nil)))
theorem b44_is : b44 fu = .cons (.ite (.p2 fGeI (.var 1) (.p2 fMul (.var 0) (.var 2))) (.cons (.ret (.var 3)) .nil) (.nil)) (.cons (.asg (.tup [.name 4, .name 5]) (.pn fTup (.cons (.var 3) (.cons (.p2 fMul (.c (.int 2)) (.var 3)) .nil)))) (.cons l1K (.cons l2K (.cons (.asg (.name 8) (.p2 fIx (.call 43 [] (.cons (.var 0) (.cons (.var 1) (.cons (.var 2) .nil)))) (.c (.int 1)))) (.cons (.ret (.cond (.and_ (.p2 fIsNot (.var 8) (.c .non)) (.p2 fEq (.call 29 [] (.cons (.var 5) (.cons (.var 3) .nil))) (.var 8))) (.var 5) (.p2 fSub (.var 5) (.c (.int 1))))) .nil))))) := rfl
/-- what the halving ends with tells the neighbor -/
theorem isAt_of {W w b h : Int} (hw : 1 ≤ w ∧ w ≤ 5) (hW : w < W) (hW2 : W ≤ 25) (hb : 0 < b) (hh : b < h) (h1 : ¬ J W w b (h - 1)) (h2 : J W w b h) :
    (W % w = 0 ∧ red h b = red ((W / w - 1) ^ (W / w - 1).toNat + 2 * (W / w) ^ (W / w).toNat) ((W / w - 1) ^ (W / w - 1).toNat) → IsAt W w b (h - b)) ∧
    (¬ (W % w = 0 ∧ red h b = red ((W / w - 1) ^ (W / w - 1).toNat + 2 * (W / w) ^ (W / w).toNat) ((W / w - 1) ^ (W / w - 1).toNat)) → IsAt W w b (h - 1 - b)) := by
  unfold J at h1 h2
  have hD := pbD_pos (show 0 < w by omega) hW
  have hst : (h - b) ^ w.toNat * pbD W w < (h - b + 1) ^ w.toNat * pbD W w := Int.mul_lt_mul_of_pos_right (pw_lt (by omega) (by omega) (by omega)) hD
  have key : W % w = 0 → (red h b = red ((W / w - 1) ^ (W / w - 1).toNat + 2 * (W / w) ^ (W / w).toNat) ((W / w - 1) ^ (W / w - 1).toNat) ↔ pbA W * (2 * b) ^ w.toNat = (h - b) ^ w.toNat * pbD W w) := by
    intro hm
    have hdiv : W = w * (W / w) := by
      have := (Int.mul_ediv_add_emod W w).symm
      omega
    have he1 : 2 ≤ W / w := by
      have h1 : w * 1 < w * (W / w) := by omega
      have := Int.lt_of_mul_lt_mul_left h1 (by omega)
      omega
    generalize hcc : W / w = c at *
    have hy := yes_eq (w := w) (c := c) (b := b) (j := h - b) hw he1 hb (by omega)
    rw [← hdiv] at hy
    rw [hy]
    have q7 : 0 < (c - 1) ^ (c - 1).toNat := Int.pow_pos (by omega)
    generalize (c - 1) ^ (c - 1).toNat = K2 at *
    generalize c ^ c.toNat = K1 at *
    constructor
    · intro e
      have l1 := (red_lt (a := h) (d := b) (b := K2 + 2 * K1) (e := K2) hb q7)
      have l2 := (red_lt (a := K2 + 2 * K1) (d := K2) (b := h) (e := b) q7 hb)
      rw [e] at l1 l2
      have n1 : ¬ h * K2 < (K2 + 2 * K1) * b := fun z => Int.lt_irrefl _ (l1.mpr z)
      have n2 : ¬ (K2 + 2 * K1) * b < h * K2 := fun z => Int.lt_irrefl _ (l2.mpr z)
      have e2 : h * K2 = (K2 + 2 * K1) * b := by omega
      grind
    · intro e
      refine red_eq hb q7 ?_
      grind
  constructor
  · rintro ⟨hm, he⟩
    have := (key hm).mp he
    refine ⟨by omega, .inr ⟨hW, by omega, by omega⟩⟩
  · intro hn
    have hne : pbA W * (2 * b) ^ w.toNat ≠ (h - b) ^ w.toNat * pbD W w := by
      by_cases hm : W % w = 0
      · intro z
        exact hn ⟨hm, (key hm).mpr z⟩
      · exact no_eq hw hW hW2 hb (by omega) hm
    refine ⟨by omega, .inr ⟨hW, ?_, ?_⟩⟩
    · omega
    · rw [show h - 1 - b + 1 = h - b by omega]
      omega
theorem near_ok {r w a b : Int} (hr : 1 ≤ r ∧ r ≤ 5) (hw : 1 ≤ w ∧ w ≤ 5) (ha : 1 ≤ a ∧ a ≤ w) (hb : 1 ≤ b) (hb2 : b.natAbs < 2 ^ 60) (hf : 2 ^ 8001 ≤ fu) :
    ∃ i, IsAt (r * a) w b i ∧ callN (pr fu) (n + 5) 44 [.int r, .int w, .int a, .int b] st = .ok (.int (b + i)) st := by
  have ha5 : 1 ≤ a ∧ a ≤ 5 := by omega
  have hra := ra_bd hr ha5
  have m0 := m_ra hr ha5
  have hb3 : b < 2 ^ 60 := by
    have h1 : (b.natAbs : Int) = b := Int.natAbs_of_nonneg (by omega)
    have h2 : (b.natAbs : Int) < ((2 ^ 60 : Nat) : Int) := by exact_mod_cast hb2
    rw [h1] at h2
    exact_mod_cast h2
  have l2 : Nat.log2 2 = 1 := by decide
  rw [call_gen (a := 4) (b := 9) (body := b44 fu) rfl, b44_is]
  by_cases hW : r * a ≤ w
  · refine ⟨0, ⟨by omega, .inl ⟨hW, rfl⟩⟩, ?_⟩
    generalize hWW : r * a = W at *
    simp [m0, hWW, hW]
  · have hlt : w < r * a := by omega
    have pmono : ∀ i : Nat, i ≤ 400 → (2 : Int) ^ (62 + i) ≤ 2 ^ 490 := fun i hi => by
      have : (2 : Nat) ^ (62 + i) ≤ 2 ^ 490 := Nat.pow_le_pow_right (by decide) (by omega)
      exact_mod_cast this
    have ask : ∀ (t : Int) (s : Sto), 0 ≤ t → t < 2 ^ 490 → callN (pr fu) (n + 4) 29 [.int t, .int b] s = .ok (fA (red t b)) s ∧ callN (pr fu) (n + 4) 42 [.int r, .int w, .int a, fA (red t b)] s = .ok (.bl (decide (J (r * a) w b t))) s := by
      intro t s h1 h2
      exact ask_ok (n := n + 2) hr hw ha hlt (by omega) hb2 (bd_mono (natAbs_lt h1 h2) (by decide)) hf
    have k1 : ∀ (env : En) (x6 x7 x8 : Option A), env = [some (.int r), some (.int w), some (.int a), some (.int b), some (.int b), some (.int (2 * b)), x6, x7, x8] → (evS (callN (pr fu) (n + 4)) l1K env st).is (fun e s => s = st ∧ ∃ lo hi x6 x7 x8, e = [some (.int r), some (.int w), some (.int a), some (.int b), some (.int lo), some (.int hi), x6, x7, x8] ∧ b ≤ lo ∧ lo < hi ∧ hi < 2 ^ 100 ∧ ¬ J (r * a) w b lo ∧ J (r * a) w b hi) (fun _ _ => False) noE noE := by
      intro env x6 x7 x8 he
      have hes : evEs (callN (pr fu) (n + 4)) (.cons (.c (.int 400)) .nil) env st = .ok [.int 400] st := by simp
      have hit := itRange_one (k := 400) (st := st) (by decide) (by decide)
      unfold l1K
      refine for_rng (lo := 0) (n := 400) (fun i e s => s = st ∧ ∃ lo x6 x7 x8, e = [some (.int r), some (.int w), some (.int a), some (.int b), some (.int lo), some (.int (2 * lo)), x6, x7, x8] ∧ lo = 2 ^ i * b ∧ ¬ J (r * a) w b lo) hes hit ⟨rfl, b, x6, x7, x8, he, by rw [Int.pow_zero, Int.one_mul], not_J (by omega) hlt (by omega)⟩ ?_ ?_
      · intro i e s hi hh
        obtain ⟨hs, lo, y6, y7, y8, he1, h1, h2⟩ := hh
        subst hs
        generalize (0 + (i : Int)) = x
        have hlo : lo < 1024 * b := by
          rcases Int.lt_or_le lo (1024 * b) with g | g
          · exact g
          · exact absurd (J_top hw hlt (by omega) (by omega) g) h2
        have hlb : b ≤ lo := by
          rw [h1]
          have : (1 : Int) ≤ 2 ^ i := Int.pow_pos (by decide)
          have := Int.mul_le_mul_of_nonneg_right this (show 0 ≤ b by omega)
          omega
        have b100 : 2048 * b < 2 ^ 100 := by
          have : (2 : Int) ^ 100 = 2 ^ 60 * 2 ^ 40 := by decide
          have : (2 : Int) ^ 40 = 1099511627776 := by decide
          omega
        have b490 : (2 : Int) ^ 100 ≤ 2 ^ 490 := by
          have : (2 : Nat) ^ 100 ≤ 2 ^ 490 := Nat.pow_le_pow_right (by decide) (by decide)
          exact_mod_cast this
        obtain ⟨e1, e2⟩ := ask (2 * lo) s (by omega) (by omega)
        have llo : lo.natAbs.log2 ≤ 100 := log2_lt_of (natAbs_lt (by omega) (by omega))
        have llo2 : (2 * lo).natAbs.log2 ≤ 100 := log2_lt_of (natAbs_lt (by omega) (by omega))
        have m1 : Nat.log2 2 + (2 * lo).natAbs.log2 < 1000000 := by omega
        rw [he1]
        simp only [T.put, List.set]
        by_cases hk : J (r * a) w b (2 * lo)
        · rw [decide_eq_true hk] at e2
          generalize hlo2 : 2 * lo = hi2 at *
          generalize red hi2 b = RR at *
          simp [e1, e2]
          exact ⟨lo, hi2, ⟨rfl, rfl⟩, hlb, by omega, by omega, h2, hk⟩
        · rw [decide_eq_false hk] at e2
          have hnx : 2 * lo = 2 ^ (i + 1) * b := by rw [h1, Int.pow_succ]; grind
          generalize hlo2 : 2 * lo = hi2 at *
          generalize red hi2 b = RR at *
          simp [e1, e2, m1]
          exact ⟨hi2, ⟨rfl, rfl⟩, hnx, hk⟩
      · intro e s hh
        obtain ⟨hs, lo, y6, y7, y8, he1, h1, h2⟩ := hh
        exfalso
        refine h2 (J_top hw hlt (by omega) (by omega) ?_)
        rw [h1]
        have : (1024 : Int) ≤ 2 ^ 400 := by
          have : (2 : Nat) ^ 10 ≤ 2 ^ 400 := Nat.pow_le_pow_right (by decide) (by decide)
          have h2 : (((2 : Nat) ^ 10 : Nat) : Int) ≤ ((2 ^ 400 : Nat) : Int) := by exact_mod_cast this
          exact h2
        exact Int.mul_le_mul_of_nonneg_right this (by omega)
    have k2 : ∀ (env : En) (lo hi : Int) (x6 x7 x8 : Option A), env = [some (.int r), some (.int w), some (.int a), some (.int b), some (.int lo), some (.int hi), x6, x7, x8] → b ≤ lo → lo < hi → hi < 2 ^ 100 → ¬ J (r * a) w b lo → J (r * a) w b hi → (evS (callN (pr fu) (n + 4)) l2K env st).is (fun e s => s = st ∧ ∃ hi x6 x7 x8, e = [some (.int r), some (.int w), some (.int a), some (.int b), some (.int (hi - 1)), some (.int hi), x6, x7, x8] ∧ b < hi ∧ hi < 2 ^ 100 ∧ ¬ J (r * a) w b (hi - 1) ∧ J (r * a) w b hi) (fun _ _ => False) noE noE := by
      intro env lo hi x6 x7 x8 he h1 h2 h3 h4 h5
      have hes : evEs (callN (pr fu) (n + 4)) (.cons (.c (.int 400)) .nil) env st = .ok [.int 400] st := by simp
      have hit := itRange_one (k := 400) (st := st) (by decide) (by decide)
      have b490 : (2 : Int) ^ 100 ≤ 2 ^ 490 := by
        have : (2 : Nat) ^ 100 ≤ 2 ^ 490 := Nat.pow_le_pow_right (by decide) (by decide)
        exact_mod_cast this
      unfold l2K
      refine for_rng (lo := 0) (n := 400) (fun i e s => s = st ∧ ∃ lo hi x6 x7 x8, e = [some (.int r), some (.int w), some (.int a), some (.int b), some (.int lo), some (.int hi), x6, x7, x8] ∧ b ≤ lo ∧ lo < hi ∧ hi < 2 ^ 100 ∧ ¬ J (r * a) w b lo ∧ J (r * a) w b hi ∧ (hi - lo) * 2 ^ i ≤ 2 ^ 100 + 2 ^ i) hes hit ⟨rfl, lo, hi, x6, x7, x8, he, h1, h2, h3, h4, h5, by rw [Int.pow_zero]; omega⟩ ?_ ?_
      · intro i e s hi hh
        obtain ⟨hs, lo, h, y6, y7, y8, he1, h1, h2, h3, h4, h5, h6⟩ := hh
        subst hs
        generalize (0 + (i : Int)) = x
        rw [he1]
        simp only [T.put, List.set]
        by_cases hd : h - lo = 1
        · simp [hd]
          refine ⟨h, ⟨by omega, rfl⟩, by omega, h3, ?_, h5⟩
          rw [show h - 1 = lo by omega]
          exact h4
        · obtain ⟨e1, e2⟩ := ask ((lo + h) / 2) s (by omega) (by omega)
          have hm1 : lo < (lo + h) / 2 := by omega
          have hm2 : (lo + h) / 2 < h := by omega
          have hp : (0 : Int) < 2 ^ i := Int.pow_pos (by decide)
          have hpn : (2 : Int) ^ (i + 1) = 2 ^ i * 2 := Int.pow_succ ..
          have l29 : Nat.log2 2 < 9000 := by omega
          have hhalf : ∀ d : Int, 2 * d ≤ h - lo + 1 → d * 2 ^ (i + 1) ≤ 2 ^ 100 + 2 ^ (i + 1) := by
            intro d hd2
            have h7 := Int.mul_le_mul_of_nonneg_right hd2 (Int.le_of_lt hp)
            rw [hpn, Int.add_mul] at *
            generalize (2 : Int) ^ i = T at *
            grind
          generalize hmm : (lo + h) / 2 = m at *
          by_cases hk : J (r * a) w b m
          · rw [decide_eq_true hk] at e2
            generalize red m b = RR at *
            simp [hd, l29, hmm, e1, e2]
            exact ⟨lo, m, ⟨rfl, rfl⟩, h1, hm1, by omega, h4, hk, hhalf _ (by omega)⟩
          · rw [decide_eq_false hk] at e2
            generalize red m b = RR at *
            simp [hd, l29, hmm, e1, e2]
            exact ⟨m, h, ⟨rfl, rfl⟩, by omega, hm2, h3, hk, h5, hhalf _ (by omega)⟩
      · intro e s hh
        obtain ⟨hs, lo, h, y6, y7, y8, he1, h1, h2, h3, h4, h5, h6⟩ := hh
        have hd : h - lo = 1 := by
          rcases Int.lt_or_le 1 (h - lo) with g | g
          · exfalso
            have g2 := Int.mul_le_mul_of_nonneg_right (show 2 ≤ h - lo by omega) (show (0 : Int) ≤ 2 ^ 400 from Int.le_of_lt (Int.pow_pos (by decide)))
            have g3 : (2 : Int) ^ 100 < 2 ^ 400 := by
              have : (2 : Nat) ^ 100 < 2 ^ 400 := Nat.pow_lt_pow_right (by decide) (by decide)
              exact_mod_cast this
            omega
          · omega
        exact ⟨hs, h, y6, y7, y8, by rw [he1, show h - 1 = lo by omega], by omega, h3, by rw [show h - 1 = lo by omega]; exact h4, h5⟩
    generalize l1K = f1 at k1 ⊢
    generalize l2K = f2 at k2 ⊢
    obtain ⟨ea, sa, hea, rfl, lo, h, x6, x7, x8, rfl, h1, h2, h3, h4, h5⟩ := SO.is_one (k1 _ none none none rfl)
    obtain ⟨eb, sb, heb, rfl, h', y6, y7, y8, rfl, h1', h2', h3', h4'⟩ := SO.is_one (k2 _ lo h x6 x7 x8 rfl h1 h2 h3 h4 h5)
    obtain ⟨P, e3⟩ := bnd_ok (fu := fu) (n := n) (st := sb) hr hw ha5 hlt hf
    have b490 : (2 : Int) ^ 100 ≤ 2 ^ 490 := by
      have : (2 : Nat) ^ 100 ≤ 2 ^ 490 := Nat.pow_le_pow_right (by decide) (by decide)
      exact_mod_cast this
    obtain ⟨e4, _⟩ := ask h' sb (by omega) (by omega)
    obtain ⟨i1, i2⟩ := isAt_of hw hlt (by omega) (by omega) h1' h3' h4'
    have lb := bd_log hb2
    have m1 : Nat.log2 2 + b.natAbs.log2 < 1000000 := by omega
    unfold bndX at e3
    generalize hWW : r * a = W at *
    by_cases hm : W % w = 0
    · rw [if_pos hm] at e3
      generalize red ((W / w - 1) ^ (W / w - 1).toNat + 2 * (W / w) ^ (W / w).toNat) ((W / w - 1) ^ (W / w - 1).toNat) = KN at *
      by_cases hk : red h' b = KN
      · refine ⟨h' - b, i1 ⟨hm, hk⟩, ?_⟩
        have e5 : fEq (fA (red h' b)) (fA KN) sb = .ok (.bl true) sb := by rw [fEq_fA, decide_eq_true hk]
        rw [show b + (h' - b) = h' by omega]
        have hn : isNonA (fA KN) = false := rfl
        generalize fA KN = KA at *
        generalize fA (red h' b) = HA at *
        simp [m0, hWW, hW, m1, hea, heb, e3, e4, e5, hn]
      · refine ⟨h' - 1 - b, i2 (fun z => hk z.2), ?_⟩
        have e5 : fEq (fA (red h' b)) (fA KN) sb = .ok (.bl false) sb := by rw [fEq_fA, decide_eq_false hk]
        rw [show b + (h' - 1 - b) = h' - 1 by omega]
        have hn : isNonA (fA KN) = false := rfl
        generalize fA KN = KA at *
        generalize fA (red h' b) = HA at *
        simp [m0, hWW, hW, m1, hea, heb, e3, e4, e5, hn]
    · rw [if_neg hm] at e3
      refine ⟨h' - 1 - b, i2 (fun z => hm z.1), ?_⟩
      rw [show b + (h' - 1 - b) = h' - 1 by omega]
      simp [m0, hWW, hW, m1, hea, heb, e3]
end
end MP.Law

set_option exponentiation.threshold 10000
namespace MP.Law
open PySem PySem.Spec PyProof.Rows L2 MP
/-- the ratios of two bases over b compared -/
theorem RB_lt {W w z v b : Int} (hw : 0 < w) (hb : 0 < b) (hz : b < z) (hv : b < v) : (RB W w (red z b)).1 * (RB W w (red v b)).2 < (RB W w (red v b)).1 * (RB W w (red z b)).2 ↔ z ^ W.toNat * (v ^ w.toNat - b ^ w.toNat) < v ^ W.toNat * (z ^ w.toNat - b ^ w.toNat) := by
  rw [RB_red hw hb hz, RB_red hw hb hv, red_lt (RBd_pos hw hb hz) (RBd_pos hw hb hv)]
  unfold RBn RBd
  have hbW : 0 < b ^ W.toNat := Int.pow_pos hb
  have hbw : 0 < b ^ w.toNat := Int.pow_pos hb
  generalize z ^ W.toNat = zW at *
  generalize v ^ W.toNat = vW at *
  generalize z ^ w.toNat = zw at *
  generalize v ^ w.toNat = vw at *
  generalize b ^ W.toNat = bW at *
  generalize b ^ w.toNat = bw at *
  have hp : 0 < 2 * (bw * bW) := by have := Int.mul_pos hbw hbW; omega
  have e1 : (bW * (zw - bw) + 2 * (zW * bw)) * (bW * (vw - bw)) = zW * (vw - bw) * (2 * (bw * bW)) + bW * (zw - bw) * (bW * (vw - bw)) := by grind
  have e2 : (bW * (vw - bw) + 2 * (vW * bw)) * (bW * (zw - bw)) = vW * (zw - bw) * (2 * (bw * bW)) + bW * (zw - bw) * (bW * (vw - bw)) := by grind
  rw [e1, e2]
  constructor
  · intro h
    exact Int.lt_of_mul_lt_mul_right (by omega) (Int.le_of_lt hp)
  · intro h
    have := Int.mul_lt_mul_of_pos_right h hp
    omega
/-- no neighbor is better -/
def Good (W w b v : Int) : Prop := b < v ∧ ∀ z, (z = v - 1 ∨ z = v + 1) → b < z → ¬ z ^ W.toNat * (v ^ w.toNat - b ^ w.toNat) < v ^ W.toNat * (z ^ w.toNat - b ^ w.toNat)
theorem up_ok {W w b v z : Int} (hw : 1 ≤ w) (hW : w < W) (hb : 0 < b) (hv : 0 ≤ v) (hz : v ≤ z) (h : W * b ^ w.toNat ≤ v ^ w.toNat * (W - w)) : ¬ z ^ W.toNat * (v ^ w.toNat - b ^ w.toNat) < v ^ W.toNat * (z ^ w.toNat - b ^ w.toNat) := by
  have hk : ((w.toNat : Nat) : Int) = w := Int.toNat_of_nonneg (by omega)
  have hm : (((W - w).toNat : Nat) : Int) = W - w := Int.toNat_of_nonneg (by omega)
  have hkm : w.toNat + (W - w).toNat = W.toNat := by omega
  have := Am.grows v z (b ^ w.toNat) w.toNat (W - w).toNat hv hz (Int.le_of_lt (Int.pow_pos hb)) (by omega) (by rw [hk, hm, show w + (W - w) = W by omega]; exact h)
  rw [hkm] at this
  omega
theorem down_ok {W w b v z : Int} (hw : 1 ≤ w) (hW : w < W) (hb : 0 < b) (hz0 : 0 ≤ z) (hz : z ≤ v) (h : v ^ w.toNat * (W - w) ≤ W * b ^ w.toNat) : ¬ z ^ W.toNat * (v ^ w.toNat - b ^ w.toNat) < v ^ W.toNat * (z ^ w.toNat - b ^ w.toNat) := by
  have hk : ((w.toNat : Nat) : Int) = w := Int.toNat_of_nonneg (by omega)
  have hm : (((W - w).toNat : Nat) : Int) = W - w := Int.toNat_of_nonneg (by omega)
  have hkm : w.toNat + (W - w).toNat = W.toNat := by omega
  have := Am.falls v z (b ^ w.toNat) w.toNat (W - w).toNat hz0 hz (Int.le_of_lt (Int.pow_pos hb)) (by omega) (by rw [hk, hm, show w + (W - w) = W by omega]; exact h)
  rw [hkm] at this
  omega
/-- never below the bound -/
theorem RB_keeps {W w x y : Int} (hw : 1 ≤ w) (hW : w < W) (hy : 0 < y) (hxy : y < x) : pbA W * (2 * (RB W w (red x y)).2) ^ w.toNat ≤ ((RB W w (red x y)).1 - (RB W w (red x y)).2) ^ w.toNat * pbD W w := by
  rw [RB_red (by omega) hy hxy]
  have hd := RBd_pos (W := W) (show 0 < w by omega) hy hxy
  rw [← red_red hd] at *
  have hx := red_x (a := RBn W w x y) hd
  have hq := red_pos (a := RBn W w x y) hd
  rw [red_red hd]
  generalize (red (RBn W w x y) (RBd W w x y)).1 = p at *
  generalize (red (RBn W w x y) (RBd W w x y)).2 = q at *
  have hdk : 0 < (RBd W w x y) ^ w.toNat := Int.pow_pos hd
  refine Int.le_of_mul_le_mul_right (a := (RBd W w x y) ^ w.toNat) ?_ hdk
  -- (p - q) d = 2 x^W y^w q
  have e1 : (p - q) * RBd W w x y = 2 * (x ^ W.toNat * y ^ w.toNat) * q := by
    have : RBn W w x y = RBd W w x y + 2 * (x ^ W.toNat * y ^ w.toNat) := rfl
    rw [this] at hx
    generalize RBd W w x y = d at *
    grind
  have e2 : (p - q) ^ w.toNat * pbD W w * RBd W w x y ^ w.toNat = (2 * (x ^ W.toNat * y ^ w.toNat) * q) ^ w.toNat * pbD W w := by
    rw [← e1, mul_pow']
    ac_rfl
  have e3 : pbA W * (2 * q) ^ w.toNat * RBd W w x y ^ w.toNat = (2 * q) ^ w.toNat * (pbA W * RBd W w x y ^ w.toNat) := by ac_rfl
  have e4 : (2 * (x ^ W.toNat * y ^ w.toNat) * q) ^ w.toNat * pbD W w = (2 * q) ^ w.toNat * ((x ^ W.toNat * y ^ w.toNat) ^ w.toNat * pbD W w) := by
    rw [show 2 * (x ^ W.toNat * y ^ w.toNat) * q = 2 * q * (x ^ W.toNat * y ^ w.toNat) by ac_rfl, mul_pow', Int.mul_assoc]
  rw [e2, e3, e4]
  refine Int.mul_le_mul_of_nonneg_left ?_ (Int.le_of_lt (Int.pow_pos (by omega)))
  have hk : ((w.toNat : Nat) : Int) = w := Int.toNat_of_nonneg (by omega)
  have hm : (((W - w).toNat : Nat) : Int) = W - w := Int.toNat_of_nonneg (by omega)
  have hkm : w.toNat + (W - w).toNat = W.toNat := by omega
  have hlt := pw_lt (Int.le_of_lt hy) hxy (k := w.toNat) (by omega)
  have hab := Am.above (x ^ w.toNat) (y ^ w.toNat) (Int.le_of_lt (Int.pow_pos hy)) (Int.le_of_lt hlt) w.toNat (W - w).toNat (by omega) (by omega)
  rw [hkm, hk, hm, show w + (W - w) = W by omega] at hab
  unfold pbA pbD RBd
  have pm : ∀ (a : Int) (i j : Nat), a ^ (i * j) = (a ^ i) ^ j := fun a i j => Int.pow_mul ..
  have s1 : (y ^ W.toNat * (x ^ w.toNat - y ^ w.toNat)) ^ w.toNat = (y ^ w.toNat) ^ (W - w).toNat * (y ^ w.toNat) ^ w.toNat * (x ^ w.toNat - y ^ w.toNat) ^ w.toNat := by
    rw [mul_pow', ← Int.pow_add, Nat.add_comm (W - w).toNat, hkm, ← Int.pow_mul, ← Int.pow_mul, Nat.mul_comm W.toNat]
  have s2 : (x ^ W.toNat * y ^ w.toNat) ^ w.toNat = (x ^ w.toNat) ^ W.toNat * (y ^ w.toNat) ^ w.toNat := by
    rw [mul_pow', ← pm x W.toNat w.toNat, ← pm x w.toNat W.toNat, Nat.mul_comm W.toNat]
  rw [s1, s2]
  have hyy : 0 ≤ (y ^ w.toNat) ^ w.toNat := Int.le_of_lt (Int.pow_pos (Int.pow_pos hy))
  have h := Int.mul_le_mul_of_nonneg_right hab hyy
  generalize (y ^ w.toNat) ^ w.toNat = Y1 at *
  generalize (y ^ w.toNat) ^ (W - w).toNat = Y2 at *
  generalize (x ^ w.toNat) ^ W.toNat = X1 at *
  generalize (x ^ w.toNat - y ^ w.toNat) ^ w.toNat = D1 at *
  generalize w ^ w.toNat = u1 at *
  generalize (W - w) ^ (W - w).toNat = u2 at *
  generalize W ^ W.toNat = u3 at *
  have t1 : u3 * (Y2 * Y1 * D1) = u3 * D1 * Y2 * Y1 := by ac_rfl
  have t2 : X1 * Y1 * (u1 * u2) = u1 * u2 * X1 * Y1 := by ac_rfl
  rw [t1, t2]
  exact h
section
variable {fu n : Nat} {st : Sto}
theorem base_of {z b : Int} (hb : 0 < b) (hz : b < z) (bz : z.natAbs < 2 ^ 107) (bb : b.natAbs < 2 ^ 20) : Base 107 (red z b) := ⟨red_bd hb bz (bd_mono bb (by decide)), by
  have h1 := red_1 z b
  have h2 := red_2 z b
  have hg := gcd_pp (a := z) hb
  generalize (red z b).1 = p at *
  generalize (red z b).2 = q at *
  generalize (Int.gcd z b : Int) = g at *
  exact Int.lt_of_mul_lt_mul_right (by omega) (Int.le_of_lt hg)⟩
theorem best_none {r w a b : Int} (hr : 1 ≤ r ∧ r ≤ 5) (hw : 1 ≤ w ∧ w ≤ 5) (ha : 1 ≤ a ∧ a ≤ w) (hb : 1 ≤ b) (hW : r * a ≤ w) : callN (pr fu) (n + 6) 24 [.int r, .int w, .int a, .int b] st = .ok .non st := by
  have m0 := m_ra hr (show 1 ≤ a ∧ a ≤ 5 by omega)
  have et := fun st => team_ok (fu := fu) (n := n) (st := st) hr hw ha
  have eb := fun st => bottom_ok (fu := fu) (n := n + 3) (st := st) hb
  rw [call_gen (a := 4) (b := 10) (body := b24 fu) rfl]
  unfold b24
  generalize hWW : r * a = W at *
  simp [et, eb, m0, hWW, hW]
/-- where the power is W / (W - w) -/
def Rt (W w b i : Int) : Prop := 0 ≤ i ∧ i ^ w.toNat * (W - w) ≤ W * b ^ w.toNat ∧ W * b ^ w.toNat < (i + 1) ^ w.toNat * (W - w)
theorem Rt.le {W w b i j : Int} (hW : w < W) (h : Rt W w b i) (h' : Rt W w b j) : i ≤ j := by
  rcases Int.lt_or_le j i with hh | hh
  · exfalso
    have := pw_mono (show 0 ≤ j + 1 by have := h'.1; omega) (show j + 1 ≤ i by omega) w.toNat
    have := Int.mul_le_mul_of_nonneg_right this (show 0 ≤ W - w by omega)
    have := h.2.1
    have := h'.2.2
    omega
  · exact hh
theorem Rt.uniq {W w b i j : Int} (hW : w < W) (h : Rt W w b i) (h' : Rt W w b j) : i = j := Int.le_antisymm (h.le hW h') (h'.le hW h)
def sel (W w b i : Int) : Int := if i ≤ b then i + 1 else if ordq (RB W w (red i b)) (RB W w (red (i + 1) b)) ≤ 0 then i else i + 1
theorem sel_good {W w b i : Int} (hw : 1 ≤ w) (hW : w < W) (hb : 0 < b) (h : Rt W w b i) : Good W w b (sel W w b i) := by
  obtain ⟨h0, h1, h2⟩ := h
  have hbi : b ≤ i := by
    rcases Int.lt_or_le i b with g | g
    · exfalso
      have := pw_mono (show 0 ≤ i + 1 by omega) (show i + 1 ≤ b by omega) w.toNat
      have h3 := Int.mul_le_mul_of_nonneg_right this (show 0 ≤ W - w by omega)
      have hbp : 0 < b ^ w.toNat := Int.pow_pos hb
      have h4 := Int.mul_le_mul_of_nonneg_left (show W - w ≤ W by omega) (Int.le_of_lt hbp)
      have h5 : b ^ w.toNat * W = W * b ^ w.toNat := Int.mul_comm ..
      omega
    · exact g
  unfold sel
  by_cases c1 : i ≤ b
  · rw [if_pos c1]
    refine ⟨by omega, fun z hz hbz => ?_⟩
    rcases hz with rfl | rfl
    · omega
    · exact up_ok hw hW hb (by omega) (by omega) (by omega)
  · rw [if_neg c1]
    have hlt := RB_lt (W := W) (w := w) (z := i + 1) (v := i) (b := b) (by omega) hb (by omega) (by omega)
    have hlt2 := RB_lt (W := W) (w := w) (z := i) (v := i + 1) (b := b) (by omega) hb (by omega) (by omega)
    by_cases c2 : ordq (RB W w (red i b)) (RB W w (red (i + 1) b)) ≤ 0
    · rw [if_pos c2]
      rw [ordq_le] at c2
      refine ⟨by omega, fun z hz hbz => ?_⟩
      rcases hz with rfl | rfl
      · exact down_ok hw hW hb (by omega) (by omega) (by omega)
      · rw [← hlt]
        omega
    · rw [if_neg c2]
      rw [ordq_le] at c2
      refine ⟨by omega, fun z hz hbz => ?_⟩
      rcases hz with rfl | rfl
      · rw [show i + 1 - 1 = i by omega, ← hlt2]
        omega
      · exact up_ok hw hW hb (by omega) (by omega) (by omega)
theorem best_ok {r w a b : Int} (hr : 1 ≤ r ∧ r ≤ 5) (hw : 1 ≤ w ∧ w ≤ 5) (ha : 1 ≤ a ∧ a ≤ w) (hb : 1 ≤ b) (hb2 : b.natAbs < 2 ^ 20) (hW : w < r * a) (hf : 2 ^ 8001 ≤ fu) :
    ∃ i g, Rt (r * a) w b i ∧ i.natAbs < 2 ^ 106 ∧ callN (pr fu) (n + 6) 24 [.int r, .int w, .int a, .int b] st = .ok (fA (red (sel (r * a) w b i) b)) (st ++ g) := by
  have m0 := m_ra hr (show 1 ≤ a ∧ a ≤ 5 by omega)
  have hra := ra_bd hr (show 1 ≤ a ∧ a ≤ 5 by omega)
  have et := fun st => team_ok (fu := fu) (n := n) (st := st) hr hw ha
  have eb := fun st => bottom_ok (fu := fu) (n := n + 3) (st := st) hb
  rw [call_gen (a := 4) (b := 10) (body := b24 fu) rfl]
  unfold b24
  generalize hWW : r * a = W at *
  have hWw : ¬ W ≤ w := by omega
  have hR : 0 < W - w := by omega
  have FX : Fr 5 (red W (W - w)) := red_bd hR (bd5 (by omega) (by omega)) (bd5 (by omega) (by omega))
  have e1 := fun st => (fr3 (fu := fu)).ok (n + 4) st W (W - w) hR (bd_mono (bd5 (show 0 ≤ W - w by omega) (by omega)) (by decide))
  obtain ⟨i, e2, i0, i1, i2, ib⟩ := rb_ok (fu := fu) (n := n + 2) (st := st) (A := W) (D := W - w) (k := w) (d := b) (K := 5) (by omega) hR (by omega) (by omega) (by omega) FX hb2 (by decide) hf
  have hRt : Rt W w b i := ⟨i0, i1, i2⟩
  have ib2 : i.natAbs < 2 ^ 106 := ib
  have ib3 : (i + 1).natAbs < 2 ^ 107 := by
    rw [show (2 : Nat) ^ 107 = 2 ^ 106 * 2 from rfl]
    omega
  have FL : Fr 106 (red i b) := red_bd (by omega) ib2 (bd_mono hb2 (by decide))
  have FH : Fr 107 (red (i + 1) b) := red_bd (by omega) ib3 (bd_mono hb2 (by decide))
  have e3 := fun st => next_ok (fu := fu) (n := n + 3) (st := st) (b := b) (i := i) (by omega) FL (bd_mono hb2 (by decide)) (by decide)
  have e4 := fun st => order_fn (p := pr fu) (f := 9) (n := n + 4) (st := st) rfl FL (fr1 (k := 1) (by decide)) (by decide)
  have hone : ordq (red i b) (1, 1) ≤ 0 ↔ i ≤ b := by
    rw [ordq_le]
    have h1 := red_1 i b
    have h2 := red_2 i b
    have hg := gcd_pp (a := i) (show 0 < b by omega)
    generalize (red i b).1 = p at *
    generalize (red i b).2 = q at *
    generalize (Int.gcd i b : Int) = g at *
    constructor
    · intro h
      have := Int.mul_le_mul_of_nonneg_right (show p ≤ q by omega) (Int.le_of_lt hg)
      omega
    · intro h
      have : p ≤ q := Int.le_of_mul_le_mul_right (by omega) hg
      omega
  rw [f1] at e4
  by_cases c1 : i ≤ b
  · refine ⟨i, [], hRt, ib2, ?_⟩
    have hs : sel W w b i = i + 1 := by unfold sel; rw [if_pos c1]
    rw [hs]
    have c2 := hone.mpr c1
    generalize red W (W - w) = X at *
    generalize hRR : W - w = R at *
    generalize ordq (red i b) (1, 1) = oo at *
    generalize red i b = LO at *
    generalize red (i + 1) b = HI at *
    simp [et, eb, m0, hWW, hWw, hRR, e1, e2, e3, e4, c2]
  · have c2 : ¬ ordq (red i b) (1, 1) ≤ 0 := fun z => c1 (hone.mp z)
    have BL : Base 107 (red i b) := base_of (by omega) (by omega) (bd_mono ib2 (by decide)) hb2
    have BH : Base 107 (red (i + 1) b) := base_of (by omega) (by omega) ib3 hb2
    have r1 := fun st => rob_ok (fu := fu) (n := n + 2) (st := st) (W := W) (w := w) (by omega) hw BL (by decide) hf
    have r2 := fun st => rob_ok (fu := fu) (n := n + 2) (st := st) (W := W) (w := w) (by omega) hw BH (by decide) hf
    have s1 := RB_bd (W := W) (w := w) (by omega) hw BL
    have s2 := RB_bd (W := W) (w := w) (by omega) hw BH
    have e5 := fun st => order_fn (p := pr fu) (f := 9) (n := n + 4) (st := st) rfl s1.a6 s2.a6 (by decide)
    refine ⟨i, [.lst [fA (RB W w (red i b)), fA (RB W w (red (i + 1) b))]], hRt, ib2, ?_⟩
    have hs : sel W w b i = if ordq (RB W w (red i b)) (RB W w (red (i + 1) b)) ≤ 0 then i else i + 1 := by unfold sel; rw [if_neg c1]
    rw [hs]
    clear hone FL FH BL BH s1 s2 FX
    generalize red W (W - w) = X at *
    generalize hRR : W - w = R at *
    generalize ordq (red i b) (1, 1) = oo at *
    have ite_eq : ∀ c : Prop, [Decidable c] → red (if c then i else i + 1) b = if c then red i b else red (i + 1) b := fun c _ => by split <;> rfl
    rw [ite_eq]
    generalize red i b = LO at *
    generalize red (i + 1) b = HI at *
    have key : ∀ env, env = [some (.int r), some (.int w), some (.int a), some (.int b), some (.int W), some (fA LO), some (fA HI), none, none, none] → evE (callN (pr fu) (n + 5)) (.comp [9] itSeq (.cons (.pn fTup (.cons (.var 5) (.cons (.var 6) .nil))) .nil) (.name 9) (.c (.bl true)) (.call 22 [] (.cons (.var 4) (.cons (.var 1) (.cons (.var 9) .nil))))) env st = .ok (.ref st.length) (st ++ [.lst [fA (RB W w LO), fA (RB W w HI)]]) := by
      intro env he
      refine comp_two (u := fA LO) (v := fA HI) (by simp [he]) ?_
      intro x y hxy
      rw [he]
      rcases hxy with ⟨rfl, rfl⟩ | ⟨rfl, rfl⟩
      · simp [T.put, wipeE, r1]
      · simp [T.put, wipeE, r2]
    have hc := key _ rfl
    have ha2 := asgT_ref2 (i := 7) (j := 8) (env := [some (.int r), some (.int w), some (.int a), some (.int b), some (.int W), some (fA LO), some (fA HI), none, none, none]) (st := st ++ [.lst [fA (RB W w LO), fA (RB W w HI)]]) (l := st.length) (a := fA (RB W w LO)) (b := fA (RB W w HI)) (by simp)
    generalize E.comp [9] itSeq (.cons (.pn fTup (.cons (.var 5) (.cons (.var 6) .nil))) .nil) (.name 9) (.c (.bl true)) (.call 22 [] (.cons (.var 4) (.cons (.var 1) (.cons (.var 9) .nil)))) = CE at *
    generalize hR1 : RB W w LO = R1 at *
    generalize hR2 : RB W w HI = R2 at *
    by_cases c3 : ordq R1 R2 ≤ 0
    · generalize ordq R1 R2 = o2 at *
      simp [et, eb, m0, hWW, hWw, hRR, e1, e2, e3, e4, c2, hc, ha2, e5, c3]
    · generalize ordq R1 R2 = o2 at *
      simp [et, eb, m0, hWW, hWw, hRR, e1, e2, e3, e4, c2, hc, ha2, e5, c3]
end
end MP.Law

set_option exponentiation.threshold 10000
namespace MP.Law
open PySem PySem.Spec PyProof.Rows L2 MP
section
variable {fu n : Nat} {st : Sto}
theorem lwhole_int (i : Int) : callN (pr fu) (n + 1) 38 [.int i] st = .ok (.bl true) st := by
  rw [call_gen (a := 1) (b := 1) (body := b38 fu) rfl]
  unfold b38
  have e1 : fIsi ["int"] (.int i) st = .ok (.bl true) st := rfl
  have e2 : fIsi ["bool"] (.int i) st = .ok (.bl false) st := rfl
  simp [e1, e2]
theorem lfrac_ok {v b : Int} (hb : 0 < b) (bb : b.natAbs < 2 ^ 60) (hf : 2 ^ 8001 ≤ fu) : callN (pr fu) (n + 2) 39 [fA (red v b)] st = .ok (.bl true) st := by
  rw [call_gen (a := 1) (b := 1) (body := b39 fu) rfl]
  unfold b39
  have hp := red_pos (a := v) hb
  have hle : (red v b).2 ≤ b := by
    have h2 := red_2 v b
    have hg := gcd_pp (a := v) hb
    have := Int.mul_le_mul_of_nonneg_left (show 1 ≤ (Int.gcd v b : Int) by omega) (Int.le_of_lt hp)
    omega
  have e1 : ∀ x st, fIsi ["tuple"] (fA x) st = .ok (.bl true) st := fun _ _ => rfl
  have e2 : ∀ x st, fLen [fA x] st = .ok (.int 2) st := fun _ _ => rfl
  have e3 := fun st => (fr29 hf).ok n st (red v b).1 (red v b).2 hp (by omega)
  rw [red_red hb] at e3
  have e4 : ∀ st, fEq (fA (red v b)) (fA (red v b)) st = .ok (.bl true) st := fun st => by rw [fEq_fA, decide_eq_true rfl]
  generalize red v b = X at *
  simp [e1, e2, e3, e4, lwhole_int, hp]
theorem one_lt {z b : Int} (hb : 0 < b) : ((1, 1) : Fq).1 * (red z b).2 < (red z b).1 * ((1, 1) : Fq).2 ↔ b < z := by
  have := red_lt (a := 1) (d := 1) (b := z) (e := b) (by decide) hb
  rw [← one_red] at this
  rw [this]
  omega
theorem isbest_ok {r w a b v : Int} (hr : 1 ≤ r ∧ r ≤ 5) (hw : 1 ≤ w ∧ w ≤ 5) (ha : 1 ≤ a ∧ a ≤ w) (hb : 1 ≤ b) (hb2 : b.natAbs < 2 ^ 20) (hW : w < r * a) (hg : Good (r * a) w b v) (bv : v.natAbs < 2 ^ 107) (bv1 : (v + 1).natAbs < 2 ^ 107) (hf : 2 ^ 8001 ≤ fu) :
    callN (pr fu) (n + 4) 48 [.int r, .int w, .int a, .int b, fA (red v b)] st = .ok (.bl true) st := by
  have ha5 : 1 ≤ a ∧ a ≤ 5 := by omega
  obtain ⟨hbv, hg⟩ := hg
  have hb0 : 0 < b := by omega
  have FV : Fr 107 (red v b) := red_bd hb0 (bd_mono bv (by decide)) (bd_mono hb2 (by decide))
  have BV : Base 107 (red v b) := base_of hb0 hbv (bd_mono bv (by decide)) hb2
  have e1 := fun st => lfrac_ok (fu := fu) (n := n + 1) (st := st) (v := v) hb0 (bd_mono hb2 (by decide)) hf
  have e2 := fun st => less_fn (p := pr fu) (f := 34) (n := n + 2) (st := st) rfl (fr1 (k := 1) (by decide)) FV (by decide)
  have hlt : decide (((1, 1) : Fq).1 * (red v b).2 < (red v b).1 * ((1, 1) : Fq).2) = true := by rw [decide_eq_true_eq, one_lt hb0]; exact hbv
  rw [hlt, f1] at e2
  have e3 := fun st => lrb_ok (fu := fu) (n := n) (st := st) hr ha5 hw BV (by decide) hf
  have sV := RB_bd (W := r * a) (w := w) (by have := ra_bd hr ha5; omega) hw BV
  have hmod : (red v b).1 * b % (red v b).2 = 0 := by
    rw [red_x hb0]
    exact Int.mul_emod_left _ _
  have m1 := lg_mul FV.n hb2 (by decide)
  have hp := FV.p
  have lp : (red v b).2.natAbs.log2 < 9000 := by have := bd_log FV.d; omega
  have step : ∀ (s : Int) (x6 x7 : Option A) (st : Sto), (s = -1 ∨ s = 1) → ∃ x7', evSs (callN (pr fu) (n + 3)) (.cons (.asg (.name 7) (.call 30 [] (.cons (.var 4) (.cons (.call 29 [] (.cons (.p2 fIx (.var 6) (.c (.int 0))) (.cons (.p2 fIx (.var 6) (.c (.int 1))) .nil))) .nil)))) (.cons (.ite (.and_ (.call 34 [] (.cons (.pn fTup (.cons (.c (.int 1)) (.cons (.c (.int 1)) .nil))) (.cons (.var 7) .nil))) (.call 34 [] (.cons (.call 47 [] (.cons (.var 0) (.cons (.var 1) (.cons (.var 2) (.cons (.var 7) .nil))))) (.cons (.var 5) .nil)))) (.cons (.ret (.c (.bl false))) .nil) (.nil)) .nil))
      [some (.int r), some (.int w), some (.int a), some (.int b), some (fA (red v b)), some (fA (RB (r * a) w (red v b))), some (fA (s, b)), x7] st = .nx [some (.int r), some (.int w), some (.int a), some (.int b), some (fA (red v b)), some (fA (RB (r * a) w (red v b))), some (fA (s, b)), x7'] st := by
    intro s x6 x7 st hs
    have g1 := (fr29 hf).ok (n + 2) st s b hb0 (bd_mono hb2 (by decide))
    have bs : s.natAbs < 2 ^ 20 := by rcases hs with rfl | rfl <;> decide
    have FS : Fr 20 (red s b) := red_bd hb0 bs hb2
    have g2 := pl_fn (p := pr fu) (f := 30) (l := 29) (n := n + 1) (st := st) rfl (fr29 hf) FV FS (by decide)
    have hz : pl (red v b) (red s b) = red (v + s) b := by
      rw [pl_red hb0 hb0]
      refine red_eq (Int.mul_pos hb0 hb0) hb0 ?_
      grind
    rw [hz] at g2
    have bz : (v + s).natAbs < 2 ^ 107 := by
      rcases hs with rfl | rfl
      · omega
      · exact bv1
    have FZ : Fr 107 (red (v + s) b) := red_bd hb0 bz (bd_mono hb2 (by decide))
    have g3 := less_fn (p := pr fu) (f := 34) (n := n + 2) (st := st) rfl (fr1 (k := 1) (by decide)) FZ (by decide)
    rw [f1] at g3
    refine ⟨some (fA (red (v + s) b)), ?_⟩
    by_cases hbz : b < v + s
    · have BZ : Base 107 (red (v + s) b) := base_of hb0 hbz bz hb2
      have sZ := RB_bd (W := r * a) (w := w) (by have := ra_bd hr ha5; omega) hw BZ
      have g4 := lrb_ok (fu := fu) (n := n) (st := st) hr ha5 hw BZ (by decide) hf
      have g5 := less_fn (p := pr fu) (f := 34) (n := n + 2) (st := st) rfl sZ.a6 sV.a6 (by decide)
      have hno : decide ((RB (r * a) w (red (v + s) b)).1 * (RB (r * a) w (red v b)).2 < (RB (r * a) w (red v b)).1 * (RB (r * a) w (red (v + s) b)).2) = false := by
        rw [decide_eq_false_iff_not, RB_lt (by omega) hb0 hbz hbv]
        exact hg (v + s) (by rcases hs with rfl | rfl <;> omega) hbz
      rw [hno] at g5
      have hyes : decide (((1, 1) : Fq).1 * (red (v + s) b).2 < (red (v + s) b).1 * ((1, 1) : Fq).2) = true := by rw [decide_eq_true_eq, one_lt hb0]; exact hbz
      rw [hyes] at g3
      generalize RB (r * a) w (red (v + s) b) = RZ at *
      generalize RB (r * a) w (red v b) = RV at *
      generalize red (v + s) b = Z at *
      generalize red v b = V at *
      generalize red s b = SB at *
      simp [g1, g2, g3, g4, g5]
    · have hyes : decide (((1, 1) : Fq).1 * (red (v + s) b).2 < (red (v + s) b).1 * ((1, 1) : Fq).2) = false := by rw [decide_eq_false_iff_not, one_lt hb0]; exact hbz
      rw [hyes] at g3
      generalize RB (r * a) w (red v b) = RV at *
      generalize red (v + s) b = Z at *
      generalize red v b = V at *
      generalize red s b = SB at *
      simp [g1, g2, g3]
  rw [call_gen (a := 5) (b := 8) (body := b48 fu) rfl]
  unfold b48
  have key : ∀ env, env = [some (.int r), some (.int w), some (.int a), some (.int b), some (fA (red v b)), some (fA (RB (r * a) w (red v b))), none, none] → (evS (callN (pr fu) (n + 3)) (.for_ itSeq (.cons (.pn fTup (.cons (.pn fTup (.cons (.p1 fNeg (.c (.int 1))) (.cons (.var 3) .nil))) (.cons (.pn fTup (.cons (.c (.int 1)) (.cons (.var 3) .nil))) .nil))) .nil) (.name 6) (.cons (.asg (.name 7) (.call 30 [] (.cons (.var 4) (.cons (.call 29 [] (.cons (.p2 fIx (.var 6) (.c (.int 0))) (.cons (.p2 fIx (.var 6) (.c (.int 1))) .nil))) .nil)))) (.cons (.ite (.and_ (.call 34 [] (.cons (.pn fTup (.cons (.c (.int 1)) (.cons (.c (.int 1)) .nil))) (.cons (.var 7) .nil))) (.call 34 [] (.cons (.call 47 [] (.cons (.var 0) (.cons (.var 1) (.cons (.var 2) (.cons (.var 7) .nil))))) (.cons (.var 5) .nil)))) (.cons (.ret (.c (.bl false))) .nil) (.nil)) .nil))) env st).is (fun e s => s = st ∧ ∃ x6 x7, e = [some (.int r), some (.int w), some (.int a), some (.int b), some (fA (red v b)), some (fA (RB (r * a) w (red v b))), x6, x7]) (fun _ _ => False) noE noE := by
    intro env he
    refine for_seq (xs := [fA (-1, b), fA (1, b)]) (it := .tup [fA (-1, b), fA (1, b)]) (ys := [.tup [fA (-1, b), fA (1, b)]]) (fun i e s => s = st ∧ ∃ x6 x7, e = [some (.int r), some (.int w), some (.int a), some (.int b), some (fA (red v b)), some (fA (RB (r * a) w (red v b))), x6, x7]) (st1 := st) (by simp [he, fA]) rfl rfl ⟨rfl, none, none, he⟩ (fun _ _ _ _ => rfl) ?_ (fun _ _ h => h)
    intro i e s x hx hh
    obtain ⟨hs, x6, x7, he1⟩ := hh
    have hcase : ∃ s', (s' = -1 ∨ s' = 1) ∧ x = fA (s', b) := by
      match i with
      | 0 => simp at hx; exact ⟨-1, .inl rfl, hx.symm⟩
      | 1 => simp at hx; exact ⟨1, .inr rfl, hx.symm⟩
      | i + 2 => simp at hx
    obtain ⟨s', hs', rfl⟩ := hcase
    obtain ⟨x7', e5⟩ := step s' x6 x7 s hs'
    rw [he1]
    simp only [T.put, List.set]
    rw [e5, SO.is_nx]
    exact ⟨hs, _, _, rfl⟩
  generalize S.for_ itSeq (.cons (.pn fTup (.cons (.pn fTup (.cons (.p1 fNeg (.c (.int 1))) (.cons (.var 3) .nil))) (.cons (.pn fTup (.cons (.c (.int 1)) (.cons (.var 3) .nil))) .nil))) .nil) (.name 6) (.cons (.asg (.name 7) (.call 30 [] (.cons (.var 4) (.cons (.call 29 [] (.cons (.p2 fIx (.var 6) (.c (.int 0))) (.cons (.p2 fIx (.var 6) (.c (.int 1))) .nil))) .nil)))) (.cons (.ite (.and_ (.call 34 [] (.cons (.pn fTup (.cons (.c (.int 1)) (.cons (.c (.int 1)) .nil))) (.cons (.var 7) .nil))) (.call 34 [] (.cons (.call 47 [] (.cons (.var 0) (.cons (.var 1) (.cons (.var 2) (.cons (.var 7) .nil))))) (.cons (.var 5) .nil)))) (.cons (.ret (.c (.bl false))) .nil) (.nil)) .nil)) = fs at key ⊢
  obtain ⟨e, s, hes, rfl, x6, x7, rfl⟩ := SO.is_one (key _ rfl)
  clear step key sV BV FV
  generalize RB (r * a) w (red v b) = RV at *
  generalize red v b = V at *
  generalize hvb : V.1 * b = vb at *
  simp [e1, e2, m1, hvb, hp, lp, hmod, e3, hes]
end
end MP.Law

namespace MP.Law
open PySem PySem.Spec PyProof.Rows L2 MP
section
variable {fu n : Nat} {st : Sto}
theorem asI_pair {xs : List Int} {k : Nat} {x y : A} (h : (asI xs)[k]? = some x) (h2 : (asI xs)[k]? = some y) : callN (pr fu) (n + 1) 36 [x, y] st = .ok (.bl true) st := by
  rw [h] at h2
  cases h2
  obtain ⟨i, rfl⟩ := asI_get h
  rw [same_int, decide_eq_true rfl]
/-! dicts -/
theorem compL_keys {l : Nat} {kvs : List (Key × A)} {body : A → Sto → Rs (Option A)} {st : Sto} (hl : st[l]? = some (.fdc kvs)) (hb : ∀ p ∈ kvs, body (keyA p.1) st = .ok none st) :
    ∀ (m i : Nat) (acc : List A), i + m = kvs.length + 1 → i ≤ kvs.length → compL (.keys l) body m i acc st = .ok acc st
  | 0, i, acc, h, h2 => by omega
  | m + 1, i, acc, h, h2 => by
    unfold compL It.at
    rw [hl]
    dsimp only
    by_cases hi : i < kvs.length
    · have e : kvs[i]? = some kvs[i] := by simp [hi]
      rw [e]
      dsimp only [Option.map]
      rw [hb _ (List.getElem_mem hi)]
      exact compL_keys hl hb m (i + 1) acc (by omega) (by omega)
    · have e : kvs[i]? = none := by simp; omega
      rw [e]
      rfl
theorem same_dct {l : Nat} {kvs : List (Key × A)} (hl : st[l]? = some (.dct kvs)) (hk : isMore kvs) : callN (pr fu) (n + 2) 36 [.ref l, .ref l] st = .ok (.bl true) (st ++ [.lst []] ++ [.lst []]) := by
  rw [call_gen (a := 2) (b := 4) (body := b36 fu) rfl]
  unfold b36
  have hlt := (List.getElem?_eq_some_iff.mp hl).1
  have h1 : tyOfA (.ref l) st = some "dict" := by
    unfold tyOfA
    dsimp only
    rw [hl]
  have g1 := fun Ts => fIsi_ty (Ts := Ts) h1
  have t1 : isTy "dict" "bool" = false := by decide
  have t2 : isTy "dict" "int" = false := by decide
  have t3 : isTy "dict" "str" = false := by decide
  have t4 : isTy "dict" "dict" = true := by decide
  have l1 : fLen [.ref l] st = .ok (.int (kvs.length : Int)) st := by
    unfold fLen
    dsimp only
    rw [hl]
  have key : ∀ env : En, env = [some (.ref l), some (.ref l), none, none] → evE (callN (pr fu) (n + 1)) (.lock 1 (.comp [2] itKeys (.cons (.var 1) .nil) (.name 2) (.or_ (.p2 fNotIn (.var 2) (.var 0)) (.p1 fNot (.call 36 [] (.cons (.p2 fIx (.var 0) (.var 2)) (.cons (.p2 fIx (.var 1) (.var 2)) .nil))))) (.var 2))) env st = .ok (.ref st.length) (st ++ [.lst []]) := by
    intro env he
    have hlock : (st.set l (.fdc kvs))[l]? = some (.fdc kvs) := by simp [hlt]
    have hc : evE (callN (pr fu) (n + 1)) (.comp [2] itKeys (.cons (.var 1) .nil) (.name 2) (.or_ (.p2 fNotIn (.var 2) (.var 0)) (.p1 fNot (.call 36 [] (.cons (.p2 fIx (.var 0) (.var 2)) (.cons (.p2 fIx (.var 1) (.var 2)) .nil))))) (.var 2)) env (st.set l (.fdc kvs)) = .ok (.ref (st.set l (.fdc kvs)).length) (st.set l (.fdc kvs) ++ [.lst []]) := by
      have hes : evEs (callN (pr fu) (n + 1)) (.cons (.var 1) .nil) env (st.set l (.fdc kvs)) = .ok [.ref l] (st.set l (.fdc kvs)) := by rw [he]; simp
      have hit : itKeys [.ref l] (st.set l (.fdc kvs)) = .ok (.keys l) (st.set l (.fdc kvs)) := by
        unfold itKeys
        dsimp only
        rw [hlock]
      rw [evE, hes, Rs.bind_ok, hit, Rs.bind_ok]
      have hlen : (It.keys l).len (st.set l (.fdc kvs)) = kvs.length := by
        unfold It.len
        rw [hlock]
      rw [hlen]
      have hsm : kvs.length ≤ 1 := by rcases hk with rfl | rfl <;> simp
      rw [if_neg (by rw [show lenOk kvs.length = true from decide_eq_true (by omega)]; decide)]
      rw [compL_keys hlock ?_ (kvs.length + 1) 0 [] (by omega) (Nat.zero_le _)]
      · rfl
      · intro p hp
        rcases hk with rfl | rfl
        · cases hp
        · have : p = (.inr "more", .int 7) := by simpa using hp
          subst this
          rw [he]
          simp only [T.put, wipeE, List.set, keyA]
          have x1 : fNotIn (.str "more") (.ref l) (st.set l (.fdc [(.inr "more", .int 7)])) = .ok (.bl false) (st.set l (.fdc [(.inr "more", .int 7)])) := by
            have e1 : dctAt (.ref l) (st.set l (.fdc [(.inr "more", .int 7)])) = some [(.inr "more", .int 7)] := by
              unfold dctAt
              dsimp only
              rw [hlock]
            show fInN true _ _ _ = _
            unfold fInN
            rw [e1]
            rfl
          have x2 : fIx (.ref l) (.str "more") (st.set l (.fdc [(.inr "more", .int 7)])) = .ok (.int 7) (st.set l (.fdc [(.inr "more", .int 7)])) := by
            have e1 : dctAt (.ref l) (st.set l (.fdc [(.inr "more", .int 7)])) = some [(.inr "more", .int 7)] := by
              unfold dctAt
              dsimp only
              rw [hlock]
            unfold fIx
            rw [e1]
            rfl
          generalize st.set l (.fdc [(.inr "more", .int 7)]) = s at *
          simp [x1, x2, same_int]
    have hi : env[1]? = some (some (.ref l)) := by rw [he]; rfl
    rw [evE, hi]
    dsimp only
    rw [hl]
    dsimp only
    rw [hc, Rs.bind_ok]
    have h5 : (st.set l (.fdc kvs) ++ [Ob.lst []])[l]? = some (.fdc kvs) := by
      rw [List.getElem?_append_left (by simpa using hlt)]
      exact hlock
    rw [h5]
    dsimp only
    rw [List.length_set, List.set_append_left _ _ (by simpa using hlt), List.set_set]
    have hset : st.set l (.dct kvs) = st := by
      obtain ⟨h7, e7⟩ := List.getElem?_eq_some_iff.mp hl
      rw [← e7]
      exact List.set_getElem_self h7
    rw [hset]
  generalize E.lock 1 (.comp [2] itKeys (.cons (.var 1) .nil) (.name 2) (.or_ (.p2 fNotIn (.var 2) (.var 0)) (.p1 fNot (.call 36 [] (.cons (.p2 fIx (.var 0) (.var 2)) (.cons (.p2 fIx (.var 1) (.var 2)) .nil))))) (.var 2)) = ce at key ⊢
  have key := key _ rfl
  have e9 : fEq (.ref st.length) (.ref (st.length + 1)) (st ++ [.lst []] ++ [.lst []]) = .ok (.bl true) (st ++ [.lst []] ++ [.lst []]) := fEq_nil (by simp) (by simp)
  simp at e9
  generalize (kvs.length : Int) = N at l1
  simp [g1, t1, t2, t3, t4, l1, key, e9]
/-- a wrong value is the same as itself -/
theorem same_self {B lw : Nat} {v : A} (hB : B ≤ 1000) (h : WV B lw st v) : ∃ g, callN (pr fu) (n + 2) 36 [v, v] st = .ok (.bl true) (st ++ g) := by
  cases h with
  | non => exact ⟨[], by rw [same_non, List.append_nil]⟩
  | tru => exact ⟨[], by rw [same_true, List.append_nil]⟩
  | int i => exact ⟨[], by rw [same_int, List.append_nil, decide_eq_true rfl]⟩
  | str i => exact ⟨[], by rw [same_str, List.append_nil, decide_eq_true rfl]⟩
  | tup xs hx =>
    refine ⟨[.lst []] ++ [.lst []], ?_⟩
    rw [← List.append_assoc]
    exact same_seq (t := "tuple") (.inr rfl) rfl rfl rfl rfl rfl rfl (by unfold asI; simp; omega) fun k x y h1 h2 => asI_pair h1 h2
  | @ref l o ho hk hl =>
    refine ⟨[.lst []] ++ [.lst []], ?_⟩
    rw [← List.append_assoc]
    rcases hk with ⟨xs, rfl, hx⟩ | ⟨kvs, rfl, hk⟩
    · have h1 : tyOfA (.ref l) st = some "list" := by
        unfold tyOfA
        dsimp only
        rw [ho]
      have h2 : itemsOf (.ref l) st = some (asI xs) := by
        unfold itemsOf
        dsimp only
        rw [ho]
      exact same_seq (t := "list") (.inl rfl) h1 h1 h2 h2 rfl rfl (by unfold asI; simp; omega) fun k x y h1 h2 => asI_pair h1 h2
    · exact same_dct ho hk
/-- _law_blamed of what is told: word, the very value -/
theorem blamed_ok {B lw lt : Nat} {v : A} {wd : Str} (hB : B ≤ 900) (h : WV B lw st v) (ht : st[lt]? = some (.lst [.str wd, v])) :
    ∃ st', callN (pr fu) (n + 3) 37 [.ref lt, .str wd, v] st = .ok (.bl true) st' ∧ Evo B lw st st' := by
  rw [call_gen (a := 3) (b := 3) (body := b37 fu) rfl]
  unfold b37
  obtain ⟨g, hs⟩ := same_self (fu := fu) (n := n) (by omega) h
  have x0 : ∀ {s : Sto}, s[lt]? = some (.lst [.str wd, v]) → fIx (.ref lt) (.int 0) s = .ok (.str wd) s := fun h => fIx_lst h (atI_nat (k := 0) rfl)
  have x1 : ∀ {s : Sto}, s[lt]? = some (.lst [.str wd, v]) → fIx (.ref lt) (.int 1) s = .ok v s := fun h => fIx_lst h (atI_nat (k := 1) rfl)
  have ht2 : (st ++ g)[lt]? = some (.lst [.str wd, v]) := by
    rw [List.getElem?_append_left (List.getElem?_eq_some_iff.mp ht).1]
    exact ht
  -- a value that is no list and no dict
  have plain : ∀ t : String, tyOfA v (st ++ g) = some t → isTy t "list" = false → isTy t "dict" = false → ∃ st', outR (evSs (callN (pr fu) (n + 2)) (.cons (.ite (.or_ (.p2 fNe (.p2 fIx (.var 0) (.c (.int 0))) (.var 1)) (.p1 fNot (.call 36 [] (.cons (.p2 fIx (.var 0) (.c (.int 1))) (.cons (.var 2) .nil))))) (.cons (.ret (.c (.bl false))) .nil) (.nil)) (.cons (.ite (.p1 (fIsi ["list"]) (.var 2)) (.cons (.expr (.p2 fApp (.p1 fIsL (.var 2)) (.c (.int 7)))) .nil) (.nil)) (.cons (.ite (.p1 (fIsi ["dict"]) (.var 2)) (.cons (.setIx (.var 2) (.c (.str "more")) (.c (.int 7))) .nil) (.nil)) (.cons (.ret (.call 36 [] (.cons (.p2 fIx (.var 0) (.c (.int 1))) (.cons (.var 2) .nil)))) .nil)))) [some (.ref lt), some (.str wd), some v] st) = .ok (.bl true) st' ∧ Evo B lw st st' := by
    intro t e1 e2 e3
    obtain ⟨g2, hs2⟩ := same_self (fu := fu) (n := n) (by omega) (h.push (g := g))
    refine ⟨st ++ g ++ g2, ?_, by rw [List.append_assoc]; exact Evo.push⟩
    have i1 := fun Ts => fIsi_ty (Ts := Ts) e1
    have y0 := x0 ht
    have y1 := x1 ht
    have y2 := x1 ht2
    generalize st ++ g = s at *
    simp [y0, y1, y2, hs, hs2, i1, e2, e3]
  cases h with
  | non => exact plain "NoneType" rfl (by decide) (by decide)
  | tru => exact plain "bool" rfl (by decide) (by decide)
  | int i => exact plain "int" rfl (by decide) (by decide)
  | str i => exact plain "str" rfl (by decide) (by decide)
  | tup xs hx => exact plain "tuple" rfl (by decide) (by decide)
  | @ref l o ho hk hl =>
    clear plain
    have hlt : l ≠ lt := by
      intro z
      rw [z, ht] at ho
      cases ho
      rcases hk with ⟨xs, e, _⟩ | ⟨kvs, e, _⟩
      · cases xs with
        | nil => cases e
        | cons a b =>
          unfold asI at e
          cases e
      · cases e
    have hll := (List.getElem?_eq_some_iff.mp ho).1
    have ho2 : (st ++ g)[l]? = some o := by
      rw [List.getElem?_append_left hll]
      exact ho
    -- behind the change
    have go : ∀ o' : Ob, Lk (B + 1) o' → ∃ g2, callN (pr fu) (n + 2) 36 [.ref l, .ref l] ((st ++ g).set l o') = .ok (.bl true) ((st ++ g).set l o' ++ g2) ∧ fIx (.ref lt) (.int 1) ((st ++ g).set l o') = .ok (.ref l) ((st ++ g).set l o') ∧ Evo B lw st ((st ++ g).set l o' ++ g2) := by
      intro o' k'
      have hself : ((st ++ g).set l o')[l]? = some o' := by
        rw [List.getElem?_set_self]
        rw [List.length_append]
        omega
      obtain ⟨g2, hs2⟩ := same_self (fu := fu) (n := n) (B := B + 1) (lw := lw) (by omega) (WV.ref (st := (st ++ g).set l o') hself k' hl)
      refine ⟨g2, hs2, x1 (by rw [List.getElem?_set_ne hlt]; exact ht2), ?_, fun k u hk2 => ?_⟩
      · rw [List.length_append, List.length_set, List.length_append]
        omega
      · have hkl := (List.getElem?_eq_some_iff.mp hk2).1
        by_cases hkk : k = l
        · subst hkk
          rw [ho] at hk2
          cases hk2
          refine .inr ⟨hl, hk, o', ?_, k'⟩
          rw [List.getElem?_append_left (by rw [List.length_set, List.length_append]; omega)]
          exact hself
        · refine .inl ?_
          rw [List.getElem?_append_left (by rw [List.length_set, List.length_append]; omega), List.getElem?_set_ne (Ne.symm hkk), List.getElem?_append_left hkl]
          exact hk2
    have y0 := x0 ht
    have y1 := x1 ht
    rcases hk with ⟨xs, rfl, hx⟩ | ⟨kvs, rfl, hk⟩
    · obtain ⟨g2, e1, e2, e3⟩ := go (.lst (asI (xs ++ [7]))) (.inl ⟨_, rfl, by simp; omega⟩)
      have hself : ((st ++ g).set l (.lst (asI (xs ++ [7]))))[l]? = some (.lst (asI (xs ++ [7]))) := by
        rw [List.getElem?_set_self]
        rw [List.length_append]
        omega
      have i1 : ∀ Ts, fIsi Ts (.ref l) (st ++ g) = .ok (.bl (Ts.any fun T => isTy "list" T)) (st ++ g) := fun Ts => fIsi_ty (by
        unfold tyOfA
        dsimp only
        rw [ho2])
      have i2 : ∀ Ts, fIsi Ts (.ref l) ((st ++ g).set l (.lst (asI (xs ++ [7])))) = .ok (.bl (Ts.any fun T => isTy "list" T)) ((st ++ g).set l (.lst (asI (xs ++ [7])))) := fun Ts => fIsi_ty (by
        unfold tyOfA
        dsimp only
        rw [hself])
      have ap : (fIsL (.ref l) (st ++ g)).bind (fun a s => fApp a (.int 7) s) = .ok .non ((st ++ g).set l (.lst (asI (xs ++ [7])))) := by
        unfold fIsL
        dsimp only
        rw [ho2]
        dsimp only
        rw [Rs.bind_ok]
        unfold fApp
        dsimp only
        rw [ho2]
        dsimp only
        rw [if_pos (by
          have : (asI xs).length = xs.length := by unfold asI; simp
          exact decide_eq_true (by omega))]
        unfold asI
        rw [List.map_append]
        rfl
      have t1 : isTy "list" "list" = true := by decide
      have t2 : isTy "list" "dict" = false := by decide
      refine ⟨_, ?_, e3⟩
      generalize (st ++ g).set l (.lst (asI (xs ++ [7]))) = s2 at *
      generalize st ++ g = s at *
      have ap2 : ∀ f : A → Sto → SO, ((fIsL (.ref l) s).bind (fun a s => fApp a (.int 7) s)).toS [some (.ref lt), some (.str wd), some (.ref l)] f = f .non s2 := fun f => by rw [ap]; rfl
      simp [y0, y1, hs, i1, i2, t1, t2, ap, ap2, e1, e2]
    · obtain ⟨g2, e1, e2, e3⟩ := go (.dct [(.inr "more", .int 7)]) (.inr ⟨_, rfl, .inr rfl⟩)
      have i1 : ∀ Ts, fIsi Ts (.ref l) (st ++ g) = .ok (.bl (Ts.any fun T => isTy "dict" T)) (st ++ g) := fun Ts => fIsi_ty (by
        unfold tyOfA
        dsimp only
        rw [ho2])
      have ap : setAt (.ref l) (.str "more") (.int 7) (st ++ g) = some ((st ++ g).set l (.dct [(.inr "more", .int 7)])) := by
        unfold setAt
        dsimp only
        rw [ho2]
        dsimp only [keyOf]
        rcases hk with rfl | rfl
        · rfl
        · rfl
      have t1 : isTy "dict" "list" = false := by decide
      have t2 : isTy "dict" "dict" = true := by decide
      refine ⟨_, ?_, e3⟩
      generalize (st ++ g).set l (.dct [(.inr "more", .int 7)]) = s2 at *
      generalize st ++ g = s at *
      simp [y0, y1, hs, i1, t1, t2, ap, e1, e2]
end
end MP.Law

set_option exponentiation.threshold 10000
namespace MP.Law
open PySem PySem.Spec PyProof.Rows L2 MP
section
variable {fu n : Nat} {st : Sto}
def hsK : Hs := .cons "InvalidRoads" (some (3, 4, ["given"])) (.pn fLst (.cons (.c (.str "roads")) (.cons (.var 4) .nil))) (.cons "InvalidWalkers" (some (3, 4, ["given"])) (.pn fLst (.cons (.c (.str "walkers")) (.cons (.var 4) .nil))) (.cons "InvalidAsked" (some (3, 4, ["given"])) (.pn fLst (.cons (.c (.str "asked")) (.cons (.var 4) .nil))) (.cons "InvalidBase" (some (3, 4, ["given"])) (.pn fLst (.cons (.c (.str "base")) (.cons (.var 4) .nil))) (.cons "InvalidNumber" (some (3, 4, ["given"])) (.pn fLst (.cons (.c (.str "number")) (.cons (.var 4) .nil))) .nil))))
/-- the errors and their words -/
inductive Wd : Str → Str → Prop
  | r : Wd "InvalidRoads" "roads"
  | w : Wd "InvalidWalkers" "walkers"
  | a : Wd "InvalidAsked" "asked"
  | b : Wd "InvalidBase" "base"
  | n : Wd "InvalidNumber" "number"
theorem hs_wd {C : CallT} {a b c d : Option A} {v : A} {cl wd : Str} (h : Wd cl wd) : evHs C hsK cl [("given", v)] [a, b, c, d] st = .rt (.ref st.length) (st ++ [.lst [.str wd, v]]) := by
  unfold hsK
  cases h with
  | r => exact evHs_yes (by decide) rfl rfl (by simp)
  | w =>
    rw [evHs_no (by decide)]
    exact evHs_yes (by decide) rfl rfl (by simp)
  | a =>
    rw [evHs_no (by decide), evHs_no (by decide)]
    exact evHs_yes (by decide) rfl rfl (by simp)
  | b =>
    rw [evHs_no (by decide), evHs_no (by decide), evHs_no (by decide)]
    exact evHs_yes (by decide) rfl rfl (by simp)
  | n =>
    rw [evHs_no (by decide), evHs_no (by decide), evHs_no (by decide), evHs_no (by decide)]
    exact evHs_yes (by decide) rfl rfl (by simp)
def retK (w : Nat) : S := .ret (.pn fLst (.cons (.c (.str "told")) (.cons (.cond (.var 2) (.call w [3, 2, 1, 0] (.cons (.p2 fIx (.var 1) (.c (.int 3))) (.cons (.p2 fIx (.var 1) (.c (.int 2))) (.cons (.p2 fIx (.var 1) (.c (.int 1))) (.cons (.p2 fIx (.var 1) (.c (.int 0))) .nil))))) (.call w [] (.cons (.p2 fIx (.var 1) (.c (.int 0))) (.cons (.p2 fIx (.var 1) (.c (.int 1))) (.cons (.p2 fIx (.var 1) (.c (.int 2))) (.cons (.p2 fIx (.var 1) (.c (.int 3))) .nil)))))) .nil)))
def tryK : Ss := .cons (.ite (.p2 fEq (.var 0) (.c (.int 0))) (.cons (retK 21) .nil) (.nil)) (.cons (.ite (.p2 fEq (.var 0) (.c (.int 1))) (.cons (retK 23) .nil) (.nil)) (.cons (retK 24) .nil))
theorem b45_is : b45 fu = .cons (.tri tryK hsK) .nil := rfl
/-- which function -/
def wf (which : Int) : Nat := if which = 0 then 21 else if which = 1 then 23 else 24
theorem wf0 : wf 0 = 21 := by
  unfold wf
  rw [if_pos rfl]
theorem wf1 : wf 1 = 23 := by
  unfold wf
  rw [if_neg (by decide), if_pos rfl]
theorem wf2 : wf 2 = 24 := by
  unfold wf
  rw [if_neg (by decide), if_neg (by decide)]
theorem perm4 (a b c d : A) : permA [3, 2, 1, 0] [a, b, c, d] = [d, c, b, a] := rfl
theorem ret_eq {w : Nat} {x : Int} {nm : Bool} {la : Nat} {a0 a1 a2 a3 : A} {C : CallT} (ha : st[la]? = some (.lst [a0, a1, a2, a3])) :
    evS C (retK w) [some (.int x), some (.ref la), some (.bl nm), none] st = (C w [a0, a1, a2, a3] st).toS [some (.int x), some (.ref la), some (.bl nm), none] fun v st1 => .rt (.ref st1.length) (st1 ++ [.lst [.str "told", v]]) := by
  have x0 : fIx (.ref la) (.int 0) st = .ok a0 st := fIx_lst ha (atI_nat (k := 0) rfl)
  have x1 : fIx (.ref la) (.int 1) st = .ok a1 st := fIx_lst ha (atI_nat (k := 1) rfl)
  have x2 : fIx (.ref la) (.int 2) st = .ok a2 st := fIx_lst ha (atI_nat (k := 2) rfl)
  have x3 : fIx (.ref la) (.int 3) st = .ok a3 st := fIx_lst ha (atI_nat (k := 3) rfl)
  unfold retK
  cases nm <;> simp [x0, x1, x2, x3, perm4] <;> cases C w [a0, a1, a2, a3] st <;> simp <;> rfl
theorem try_eq {which : Int} {nm : Bool} {la : Nat} {a0 a1 a2 a3 : A} {C : CallT} (hw : which = 0 ∨ which = 1 ∨ which = 2) (ha : st[la]? = some (.lst [a0, a1, a2, a3])) :
    evSs C tryK [some (.int which), some (.ref la), some (.bl nm), none] st = (C (wf which) [a0, a1, a2, a3] st).toS [some (.int which), some (.ref la), some (.bl nm), none] fun v st1 => .rt (.ref st1.length) (st1 ++ [.lst [.str "told", v]]) := by
  have e := fun w x => ret_eq (w := w) (x := x) (nm := nm) (C := C) ha
  unfold tryK
  generalize hr1 : retK 21 = r1 at *
  generalize hr2 : retK 23 = r2 at *
  generalize hr3 : retK 24 = r3 at *
  have e1 := e 21
  have e2 := e 23
  have e3 := e 24
  rw [hr1] at e1
  rw [hr2] at e2
  rw [hr3] at e3
  rcases hw with rfl | rfl | rfl
  · rw [wf0]
    simp [e1]
    cases C 21 [a0, a1, a2, a3] st <;> rfl
  · rw [wf1]
    simp [e2]
    cases C 23 [a0, a1, a2, a3] st <;> rfl
  · rw [wf2]
    simp [e3]
    cases C 24 [a0, a1, a2, a3] st <;> rfl
theorem called_ok {which : Int} {nm : Bool} {la : Nat} {a0 a1 a2 a3 v : A} {st1 : Sto} (hw : which = 0 ∨ which = 1 ∨ which = 2) (ha : st[la]? = some (.lst [a0, a1, a2, a3])) (h : callN (pr fu) n (wf which) [a0, a1, a2, a3] st = .ok v st1) :
    callN (pr fu) (n + 1) 45 [.int which, .ref la, .bl nm] st = .ok (.ref st1.length) (st1 ++ [.lst [.str "told", v]]) := by
  rw [call_gen (a := 3) (b := 4) (body := b45 fu) rfl, b45_is]
  simp only [evSs_cons, evS_tri]
  have := try_eq (C := callN (pr fu) n) (nm := nm) hw ha
  rw [h] at this
  simp at this ⊢
  rw [this]
  simp
theorem called_ex {which : Int} {nm : Bool} {la : Nat} {a0 a1 a2 a3 v : A} {c wd : Str} (hw : which = 0 ∨ which = 1 ∨ which = 2) (ha : st[la]? = some (.lst [a0, a1, a2, a3])) (h : callN (pr fu) n (wf which) [a0, a1, a2, a3] st = .exc c [("given", v)] st) (hd : Wd c wd) :
    callN (pr fu) (n + 1) 45 [.int which, .ref la, .bl nm] st = .ok (.ref st.length) (st ++ [.lst [.str wd, v]]) := by
  rw [call_gen (a := 3) (b := 4) (body := b45 fu) rfl, b45_is]
  simp only [evSs_cons, evS_tri]
  have := try_eq (C := callN (pr fu) n) (nm := nm) hw ha
  rw [h] at this
  simp at this ⊢
  rw [this]
  simp [hs_wd hd]
/-! ### refused calls -/
theorem take26 {L : Nat} {k m : Int} (g : GB st L k) (hk : k < 4294967295) (h0 : 0 < m) (hm : m < 4294967296) :
    ∃ r st', callN (pr fu) (n + 1) 26 [.ref L, .int m] st = .ok (.int r) st' ∧ 0 ≤ r ∧ r < m ∧ GB st' L (k + 1) ∧ Gr L st st' :=
  take_ok (a := 69621) (b := 1327) (c := 31) (M := 2147483629) (s := 64) rfl (by decide) g hk h0 hm
theorem pick26 {L l : Nat} {k : Int} {xs : List A} (g : GB st L k) (hk : k < 4294967295) (hl : st[l]? = some (.lst xs)) (hx : 0 < xs.length) (hx2 : xs.length < 1000000) (hne : l ≠ L) :
    ∃ v st', callN (pr fu) (n + 2) 27 [.ref L, .ref l] st = .ok v st' ∧ v ∈ xs ∧ GB st' L (k + 1) ∧ Gr L st st' :=
  pick_ok (a := 69621) (b := 1327) (c := 31) (M := 2147483629) (s := 64) (t := 26) rfl rfl (by decide) g hk hl hx hx2 hne
/-- the arguments of one call: what stands at i is wrong, what stands ahead is right -/
inductive Args (w : A) : Nat → List A → Prop
  | z (b c d : A) : Args w 0 [w, b, c, d]
  | o (a : Int) (c d : A) (ha : 1 ≤ a ∧ a ≤ 5) : Args w 1 [.int a, w, c, d]
  | t (a b : Int) (d : A) (ha : 1 ≤ a ∧ a ≤ 5) (hb : 1 ≤ b ∧ b ≤ 5) : Args w 2 [.int a, .int b, w, d]
  | h (a b : Int) (ha : 1 ≤ a ∧ a ≤ 5) (hb : 1 ≤ b ∧ b ≤ 5) : Args w 3 [.int a, .int b, .int 1, w]
def BadB (w : A) : Prop := ∀ xs : List Int, w = .tup (asI xs) → xs.length ≠ 2 ∨ ∃ x y, xs = [x, y] ∧ (¬ 0 < y ∨ Int.gcd x y ≠ 1 ∨ x ≤ y) ∧ x.natAbs < 100 ∧ y.natAbs < 100
def NotNum (w : A) : Prop := ∀ j : Int, w = .int j → ¬ (1 ≤ j ∧ j ≤ 5)
def BadN (w : A) : Prop := ∀ j : Int, w = .int j → ¬ 1 ≤ j
theorem isTup_no {v : A} (h : ∃ t, tyOfA v st = some t ∧ isTy t "tuple" = false) : callN (pr fu) (n + 1) 2 [v, .int 2] st = .ok (.bl false) st := by
  obtain ⟨t, h1, h2⟩ := h
  rw [call_gen (a := 2) (b := 2) (body := b2 fu) rfl]
  unfold b2
  have e := fun Ts => fIsi_ty (Ts := Ts) h1
  simp [e, h2]
theorem isTup_tup {xs : List A} : callN (pr fu) (n + 1) 2 [.tup xs, .int 2] st = .ok (.bl (decide ((xs.length : Int) = 2))) st := by
  rw [call_gen (a := 2) (b := 2) (body := b2 fu) rfl]
  unfold b2
  have e : fIsi ["tuple"] (.tup xs) st = .ok (.bl true) st := rfl
  have e2 : fLen [.tup xs] st = .ok (.int (xs.length : Int)) st := rfl
  generalize (xs.length : Int) = N at *
  simp [e, e2]
theorem isFrac_no {v : A} (h : callN (pr fu) (n + 1) 2 [v, .int 2] st = .ok (.bl false) st) : callN (pr fu) (n + 2) 4 [v] st = .ok (.bl false) st := by
  rw [call_gen (a := 1) (b := 1) (body := b4 fu) rfl]
  unfold b4
  simp [h]
theorem isFrac_two {p q : Int} : callN (pr fu) (n + 2) 4 [.tup [.int p, .int q]] st = .ok (.bl (decide (0 < q) && decide (((Nat.gcd p.natAbs q.natAbs : Nat) : Int) = 1))) st := by
  rw [call_gen (a := 1) (b := 1) (body := b4 fu) rfl]
  unfold b4
  have e2 : callN (pr fu) (n + 1) 2 [.tup [.int p, .int q], .int 2] st = .ok (.bl true) st := by rw [isTup_tup]; rfl
  have e : ∀ s, fGcd [.int p, .int q] s = .ok (.int ((Nat.gcd p.natAbs q.natAbs : Nat) : Int)) s := fun s => rfl
  generalize ((Nat.gcd p.natAbs q.natAbs : Nat) : Int) = G at *
  by_cases h : 0 < q
  · simp [e2, e, h]
  · simp [e2, e, h]
theorem notTup {B lw : Nat} {v : A} (h : WV B lw st v) : (∃ xs, v = .tup (asI xs)) ∨ ∃ t, tyOfA v st = some t ∧ isTy t "tuple" = false := by
  cases h with
  | non => exact .inr ⟨"NoneType", rfl, by decide⟩
  | tru => exact .inr ⟨"bool", rfl, by decide⟩
  | int i => exact .inr ⟨"int", rfl, by decide⟩
  | str i => exact .inr ⟨"str", rfl, by decide⟩
  | tup xs hx => exact .inl ⟨xs, rfl⟩
  | ref h k hl =>
    refine .inr ?_
    unfold tyOfA
    dsimp only
    rw [h]
    rcases k with ⟨xs, rfl, _⟩ | ⟨kvs, rfl, _⟩
    · exact ⟨"list", rfl, by decide⟩
    · exact ⟨"dict", rfl, by decide⟩
theorem notInt {B lw : Nat} {v : A} (h : WV B lw st v) : (∃ i : Int, v = .int i) ∨ ∃ t, tyOfA v st = some t ∧ (isTy t "int" && !isTy t "bool") = false := by
  cases h with
  | non => exact .inr ⟨"NoneType", rfl, by decide⟩
  | tru => exact .inr ⟨"bool", rfl, by decide⟩
  | int i => exact .inl ⟨i, rfl⟩
  | str i => exact .inr ⟨"str", rfl, by decide⟩
  | tup xs hx => exact .inr ⟨"tuple", rfl, by decide⟩
  | ref h k hl =>
    refine .inr ?_
    unfold tyOfA
    dsimp only
    rw [h]
    rcases k with ⟨xs, rfl, _⟩ | ⟨kvs, rfl, _⟩
    · exact ⟨"list", rfl, by decide⟩
    · exact ⟨"dict", rfl, by decide⟩
theorem bad_of {B lw : Nat} {v : A} (h : WV B lw st v) (hb : NotNum v) : Bad st v := by
  rcases notInt h with ⟨i, rfl⟩ | h
  · exact .inl ⟨i, rfl, hb i rfl⟩
  · exact .inr h
theorem bottom_no {B lw : Nat} {v : A} (h : WV B lw st v) (hb : BadN v) : callN (pr fu) (n + 2) 19 [v] st = .exc "InvalidNumber" [("given", v)] st := by
  rw [call_gen (a := 1) (b := 1) (body := b19 fu) rfl]
  unfold b19
  rcases notInt h with ⟨i, rfl⟩ | ⟨t, h1, h2⟩
  · have h3 : i < 1 := by have := hb i rfl; omega
    simp [h3, evS_rais1]
  · simp [isInt_ty h1, h2, evS_rais1]
/-- is it a base? -/
theorem base_no {B lw : Nat} {v : A} (h : WV B lw st v) (hb : BadB v) : (∀ n, callN (pr fu) (n + 2) 4 [v] st = .ok (.bl false) st) ∨ ((∀ n, callN (pr fu) (n + 2) 4 [v] st = .ok (.bl true) st) ∧ ∃ o, o ≤ 0 ∧ ∀ n, callN (pr fu) (n + 1) 9 [v, .tup [.int 1, .int 1]] st = .ok (.int o) st) := by
  rcases notTup h with ⟨xs, rfl⟩ | h
  · rcases hb xs rfl with h2 | ⟨x, y, rfl, hxy, bx, by_⟩
    · refine .inl fun n => (isFrac_no ?_)
      rw [isTup_tup, decide_eq_false]
      unfold asI
      rw [List.length_map]
      omega
    · show (∀ n, callN (pr fu) (n + 2) 4 [.tup [.int x, .int y]] st = .ok (.bl false) st) ∨ ((∀ n, callN (pr fu) (n + 2) 4 [.tup [.int x, .int y]] st = .ok (.bl true) st) ∧ ∃ o, o ≤ 0 ∧ ∀ n, callN (pr fu) (n + 1) 9 [.tup [.int x, .int y], .tup [.int 1, .int 1]] st = .ok (.int o) st)
      by_cases hf : 0 < y ∧ Int.gcd x y = 1
      · have hle : x ≤ y := by
          rcases hxy with h | h | h
          · exact absurd hf.1 h
          · exact absurd hf.2 h
          · exact h
        refine .inr ⟨fun n => isFrac_ok hf.1 hf.2, ?_⟩
        have F : Fr 7 (x, y) := ⟨hf.1, by show x.natAbs < 128; omega, by show y.natAbs < 128; omega⟩
        refine ⟨ordq (x, y) (1, 1), by rw [ordq_le]; show x * 1 ≤ 1 * y; omega, fun n => ?_⟩
        exact order_fn (p := pr fu) (f := 9) (n := n) (st := st) rfl F (fr1 (k := 1) (by decide)) (by decide)
      · refine .inl fun n => ?_
        rw [isFrac_two]
        by_cases h1 : 0 < y
        · have h2 : ¬ (((Nat.gcd x.natAbs y.natAbs : Nat) : Int) = 1) := fun z => hf ⟨h1, by
            have : Nat.gcd x.natAbs y.natAbs = 1 := by omega
            exact this⟩
          rw [decide_eq_false h2, Bool.and_false]
        · rw [decide_eq_false h1, Bool.false_and]
  · exact .inl fun n => isFrac_no (isTup_no h)
/-- what a call with wrong arguments raises -/
def word (which : Int) (i : Nat) : Str := if i = 0 then "roads" else if i = 1 then "walkers" else if i = 2 then "asked" else if which = 1 then "base" else "number"
def WrongAt (which : Int) (i : Nat) (w : A) : Prop := if i ≤ 2 then NotNum w else if which = 1 then BadB w else BadN w
theorem team_exc {which : Int} {c : Str} {a0 a1 a2 a3 v : A} (hw : which = 0 ∨ which = 1 ∨ which = 2) (h : callN (pr fu) (n + 5) 18 [a0, a1, a2] st = .exc c [("given", v)] st) : callN (pr fu) (n + 6) (wf which) [a0, a1, a2, a3] st = .exc c [("given", v)] st := by
  rcases hw with rfl | rfl | rfl
  · rw [wf0, call_gen (a := 4) (b := 6) (body := b21 fu) rfl]
    unfold b21
    simp [h]
  · rw [wf1, call_gen (a := 4) (b := 4) (body := b23 fu) rfl]
    unfold b23
    simp [h]
  · rw [wf2, call_gen (a := 4) (b := 10) (body := b24 fu) rfl]
    unfold b24
    simp [h]
theorem nums_exc {c : Str} {a0 a1 a2 v : A} (h : callN (pr fu) (n + 4) 17 [a0, a1, a2] st = .exc c [("given", v)] st) : callN (pr fu) (n + 5) 18 [a0, a1, a2] st = .exc c [("given", v)] st := by
  rw [call_gen (a := 3) (b := 3) (body := b18 fu) rfl]
  unfold b18
  simp [h]
theorem few_exc {r w a : Int} (hr : 1 ≤ r ∧ r ≤ 5) (hw : 1 ≤ w ∧ w ≤ 5) (ha : 1 ≤ a ∧ a ≤ 5) (h : w < a) : callN (pr fu) (n + 5) 18 [.int r, .int w, .int a] st = .exc "InvalidAsked" [("given", .int a)] st := by
  rw [call_gen (a := 3) (b := 3) (body := b18 fu) rfl]
  unfold b18
  simp [nums_ok hr hw ha, h, evS_rais1]
theorem wrong_exc {B lw i : Nat} {which : Int} {w : A} {as : List A} (hw : which = 0 ∨ which = 1 ∨ which = 2) (hA : Args w i as) (hv : WV B lw st w) (hb : WrongAt which i w) :
    ∃ c, Wd c (word which i) ∧ callN (pr fu) (n + 6) (wf which) as st = .exc c [("given", w)] st := by
  cases hA with
  | z b c d =>
    refine ⟨_, .r, team_exc hw (nums_exc ?_)⟩
    rw [call_gen (a := 3) (b := 3) (body := b17 fu) rfl]
    unfold b17
    simp [roads_no (bad_of hv hb)]
  | o a c d ha =>
    refine ⟨_, .w, team_exc hw (nums_exc ?_)⟩
    rw [call_gen (a := 3) (b := 3) (body := b17 fu) rfl]
    unfold b17
    simp [roads_ok ha, walkers_no (bad_of hv hb)]
  | t a b d ha hb2 =>
    refine ⟨_, .a, team_exc hw (nums_exc ?_)⟩
    rw [call_gen (a := 3) (b := 3) (body := b17 fu) rfl]
    unfold b17
    simp [roads_ok ha, walkers_ok hb2, asked_no (bad_of hv hb)]
  | h a b ha hb2 =>
    have et := fun st => team_ok (fu := fu) (n := n) (st := st) ha hb2 (a := 1) (by omega)
    unfold WrongAt at hb
    rw [if_neg (by decide)] at hb
    unfold word
    rw [if_neg (by decide), if_neg (by decide), if_neg (by decide)]
    rcases hw with rfl | rfl | rfl
    · rw [if_neg (by decide)] at hb
      refine ⟨_, .n, ?_⟩
      rw [wf0, call_gen (a := 4) (b := 6) (body := b21 fu) rfl]
      unfold b21
      simp [et, bottom_no hv hb]
    · rw [if_pos rfl] at hb
      refine ⟨_, .b, ?_⟩
      rw [wf1, call_gen (a := 4) (b := 4) (body := b23 fu) rfl]
      unfold b23
      rcases base_no (fu := fu) hv hb with h1 | ⟨h1, o, h2, h3⟩
      · have h1' := h1 (n + 3)
        simp [et, h1', evS_rais1]
      · have h1' := h1 (n + 3)
        have h3' := h3 (n + 4)
        simp [et, h1', h3', h2, evS_rais1]
    · rw [if_neg (by decide)] at hb
      refine ⟨_, .n, ?_⟩
      rw [wf2, call_gen (a := 4) (b := 10) (body := b24 fu) rfl]
      unfold b24
      simp [et, bottom_no hv hb]
end
end MP.Law

set_option exponentiation.threshold 10000
namespace MP.Law
open PySem PySem.Spec PyProof.Rows L2 MP
section
variable {fu n : Nat} {st : Sto}
def s1 : S := .asg (.name 6) (.pn fLst (.cons (.p2 fAdd (.c (.int 1)) (.call 26 [] (.cons (.var 0) (.cons (.c (.int 5)) .nil)))) (.cons (.p2 fAdd (.c (.int 1)) (.call 26 [] (.cons (.var 0) (.cons (.c (.int 5)) .nil)))) (.cons (.c (.int 1)) (.cons (.cond (.p2 fEq (.var 2) (.c (.int 1))) (.pn fTup (.cons (.c (.int 2)) (.cons (.c (.int 1)) .nil))) (.c (.int 3))) .nil)))))
def s2 : S := .setIx (.var 6) (.var 5) (.p2 fIx (.var 3) (.var 5))
def s3 : S := .ite (.p2 fEq (.call 26 [] (.cons (.var 0) (.cons (.c (.int 2)) .nil))) (.c (.int 0))) (.cons (.asg (.name 6) (.p2 fAdd (.pn fSl (.cons (.var 6) (.cons (.c .non) (.cons (.p1 fInt (.p2 fAdd (.var 5) (.c (.int 1)))) .nil)))) (.pn fSl (.cons (.var 3) (.cons (.p1 fInt (.p2 fAdd (.var 5) (.c (.int 1)))) (.cons (.c .non) .nil)))))) .nil) (.nil)
def s4 : S := .asg (.name 7) (.call 45 [] (.cons (.var 2) (.cons (.var 6) (.cons (.var 1) .nil))))
def s5 : S := .ite (.or_ (.p2 fNe (.p2 fIx (.var 7) (.c (.int 0))) (.p2 fIx (.pn fLst (.cons (.c (.str "roads")) (.cons (.c (.str "walkers")) (.cons (.c (.str "asked")) (.cons (.cond (.p2 fEq (.var 2) (.c (.int 1))) (.c (.str "base")) (.c (.str "number"))) .nil))))) (.var 5))) (.p1 fNot (.call 37 [] (.cons (.var 7) (.cons (.p2 fIx (.var 7) (.c (.int 0))) (.cons (.p2 fIx (.var 3) (.var 5)) .nil)))))) (.cons (.ret (.c (.bl false))) .nil) (.nil)
def s6 : S := .asg (.name 1) (.p1 fNot (.var 1))
def lastW (which : Int) : A := if which = 1 then .tup [.int 2, .int 1] else .int 3
theorem ix_cases {i : Nat} {x : Int} (hi : i < 4) (hx : x = i) : (i = 0 ∧ x = 0) ∨ (i = 1 ∧ x = 1) ∨ (i = 2 ∧ x = 2) ∨ (i = 3 ∧ x = 3) := by omega
theorem args_ok {L lw : Nat} {k : Int} {x4 x6 x7 x8 x9 : Option A} {nm : Bool} {which x : Int} {i : Nat} {u0 u1 u2 u3 : A} {w : A} (hw : which = 0 ∨ which = 1 ∨ which = 2) (g : GB st L k) (hk : k < 4000000000) (hlw : st[lw]? = some (.lst [u0, u1, u2, u3])) (hne : lw ≠ L) (hi : i < 4) (hx : x = i) (hu : [u0, u1, u2, u3][i]? = some w) :
    ∃ la st' as, la ≠ L ∧ la ≠ lw ∧ st'[la]? = some (.lst as) ∧ Args w i as ∧ GB st' L (k + 3) ∧ Gr L st st' ∧ ∀ rest, evSs (callN (pr fu) (n + 1)) (.cons s1 (.cons s2 (.cons s3 rest))) [some (.ref L), some (.bl nm), some (.int which), some (.ref lw), x4, some (.int x), x6, x7, x8, x9] st
      = evSs (callN (pr fu) (n + 1)) rest [some (.ref L), some (.bl nm), some (.int which), some (.ref lw), x4, some (.int x), some (.ref la), x7, x8, x9] st' := by
  obtain ⟨r1, st1, e1, a1, b1, g1, G1⟩ := take26 (fu := fu) (n := n) (m := 5) g (by omega) (by decide) (by decide)
  obtain ⟨r2, st2, e2, a2, b2, g2, G2⟩ := take26 (fu := fu) (n := n) (m := 5) g1 (by omega) (by decide) (by decide)
  have Ga := G1.trans G2
  have hlwlt := (List.getElem?_eq_some_iff.mp hlw).1
  have hla : st2.length ≠ L := by have := g2.lt; omega
  have hla2 : st2.length ≠ lw := by have := Ga.len; omega
  have hlw2 : st2[lw]? = some (.lst [u0, u1, u2, u3]) := Ga.get hlw hne
  have hc := ix_cases hi hx
  obtain ⟨ys, hys, hA, hlen, hA2⟩ : ∃ ys, (∀ z : Sto, z = st2 ++ [.lst [.int (1 + r1), .int (1 + r2), .int 1, lastW which]] → setAt (.ref st2.length) (.int x) w z = some (st2 ++ [.lst ys])) ∧ Args w i ys ∧ (cutA ys none (some (x + 1)) ++ cutA [u0, u1, u2, u3] (some (x + 1)) none).length = 4 ∧ Args w i (cutA ys none (some (x + 1)) ++ cutA [u0, u1, u2, u3] (some (x + 1)) none) := by
    have hset : ∀ j : Nat, j < 4 → ∀ z : Sto, z = st2 ++ [.lst [.int (1 + r1), .int (1 + r2), .int 1, lastW which]] → setAt (.ref st2.length) (.int (j : Int)) w z = some (st2 ++ [.lst ([A.int (1 + r1), .int (1 + r2), .int 1, lastW which].set j w)]) := fun j hj z hz => by
      rw [hz]
      have := setAt_lst (v := w) (i := j) (st := st2 ++ [.lst [.int (1 + r1), .int (1 + r2), .int 1, lastW which]]) (l := st2.length) (by simp; rfl) (by show j < 4; exact hj)
      rw [List.set_append_right _ _ (Nat.le_refl _)] at this
      simpa using this
    rcases hc with ⟨rfl, rfl⟩ | ⟨rfl, rfl⟩ | ⟨rfl, rfl⟩ | ⟨rfl, rfl⟩
    · simp at hu
      subst hu
      exact ⟨_, fun z hz => hset 0 (by decide) z hz, .z _ _ _, rfl, .z _ _ _⟩
    · simp at hu
      subst hu
      exact ⟨_, fun z hz => hset 1 (by decide) z hz, .o _ _ _ (by omega), rfl, .o (1 + r1) _ _ (by omega)⟩
    · simp at hu
      subst hu
      exact ⟨_, fun z hz => hset 2 (by decide) z hz, .t _ _ _ (by omega) (by omega), rfl, .t (1 + r1) (1 + r2) _ (by omega) (by omega)⟩
    · simp at hu
      subst hu
      exact ⟨_, fun z hz => hset 3 (by decide) z hz, .h _ _ (by omega) (by omega), rfl, .h (1 + r1) (1 + r2) (by omega) (by omega)⟩
  have hw4 : fIx (.ref lw) (.int x) (st2 ++ [.lst [.int (1 + r1), .int (1 + r2), .int 1, lastW which]]) = .ok w (st2 ++ [.lst [.int (1 + r1), .int (1 + r2), .int 1, lastW which]]) := by
    refine fIx_lst (xs := [u0, u1, u2, u3]) (by rw [List.getElem?_append_left (by have := Ga.len; omega)]; exact hlw2) ?_
    rw [hx]
    exact atI_nat hu
  obtain ⟨r3, st5, e3, a3, b3, g3, G3⟩ := take26 (fu := fu) (n := n) (m := 2) (g2.push (xs := [.lst ys])) (by omega) (by decide) (by decide)
  have hla5 : st5[st2.length]? = some (.lst ys) := G3.get (by simp) hla
  have hlw5 : st5[lw]? = some (.lst [u0, u1, u2, u3]) := G3.get (by rw [List.getElem?_append_left (by have := Ga.len; omega)]; exact hlw2) hne
  have G5 : Gr L st st5 := Ga.trans (Gr.push.trans G3)
  have g5 : GB st5 L (k + 3) := g3.mono (by omega)
  have hset2 := hys _ rfl
  have hlast : ∀ st : Sto, (if which = 1 then Rs.ok (A.tup [.int 2, .int 1]) st else Rs.ok (.int 3) st) = .ok (lastW which) st := fun st => by
    unfold lastW
    split <;> rfl
  by_cases hr3 : r3 = 0
  · subst hr3
    refine ⟨st5.length + 2, st5 ++ [.lst (cutA ys none (some (x + 1)))] ++ [.lst (cutA [u0, u1, u2, u3] (some (x + 1)) none)] ++ [.lst (cutA ys none (some (x + 1)) ++ cutA [u0, u1, u2, u3] (some (x + 1)) none)], _, ?_, ?_, ?_, hA2, ?_, ?_, ?_⟩
    · have := g5.lt; omega
    · have := G5.len; omega
    · simp
    · exact ((g5.push).push).push
    · exact ((G5.trans Gr.push).trans Gr.push).trans Gr.push
    · intro rest
      have f1 := fSl_lo (i := x + 1) hla5
      have f2 := fSl_hi (st := st5 ++ [.lst (cutA ys none (some (x + 1)))]) (i := x + 1) (l := lw) (xs := [u0, u1, u2, u3]) (by rw [List.getElem?_append_left (by have := G5.len; omega)]; exact hlw5)
      have f3 := fAdd_ref (st := st5 ++ [.lst (cutA ys none (some (x + 1)))] ++ [.lst (cutA [u0, u1, u2, u3] (some (x + 1)) none)]) (l := st5.length) (k := st5.length + 1) (xs := cutA ys none (some (x + 1))) (ys := cutA [u0, u1, u2, u3] (some (x + 1)) none) (by simp) (by simp) (by rw [← List.length_append, hlen]; decide)
      generalize cutA ys none (some (x + 1)) = c1 at *
      generalize cutA [u0, u1, u2, u3] (some (x + 1)) none = c2 at *
      unfold s1 s2 s3
      simp at f2 f3 hset2 hw4
      simp [e1, e2, hlast, hw4, hset2, e3, f1, f2, f3]
  · refine ⟨st2.length, st5, ys, hla, hla2, hla5, hA, g5, G5, ?_⟩
    intro rest
    unfold s1 s2 s3
    simp [e1, e2, hlast, hw4, hset2, e3, hr3]
def innerK : Ss := .cons s1 (.cons s2 (.cons s3 (.cons s4 (.cons s5 (.cons s6 .nil)))))
theorem step_ok {B L lw : Nat} {k : Int} {x4 x6 x7 x8 x9 : Option A} {nm : Bool} {which x : Int} {i : Nat} {u0 u1 u2 u3 : A} {w : A} (g : GB st L k) (hk : k < 4000000000) (hlw : st[lw]? = some (.lst [u0, u1, u2, u3])) (hne : lw ≠ L) (hw : which = 0 ∨ which = 1 ∨ which = 2)
    (hi : i < 4) (hx : x = i) (hu : [u0, u1, u2, u3][i]? = some w) (hB : B ≤ 800) (v : ∀ u ∈ [u0, u1, u2, u3], WV B lw st u) (hb : WrongAt which i w) :
    ∃ y6 y7 st', evSs (callN (pr fu) (n + 7)) innerK [some (.ref L), some (.bl nm), some (.int which), some (.ref lw), x4, some (.int x), x6, x7, x8, x9] st
      = .nx [some (.ref L), some (.bl (!nm)), some (.int which), some (.ref lw), x4, some (.int x), some y6, some y7, x8, x9] st' ∧ GB st' L (k + 3) ∧ st'[lw]? = some (.lst [u0, u1, u2, u3]) ∧ ∀ u ∈ [u0, u1, u2, u3], WV (B + 1) lw st' u := by
  obtain ⟨la, st1, as, hl1, hl2, hla, hA, g1, G1, hrun⟩ := args_ok (fu := fu) (n := n + 6) (x4 := x4) (x6 := x6) (x7 := x7) (x8 := x8) (x9 := x9) (nm := nm) (which := which) hw g hk hlw hne hi hx hu
  have c := fun u hu => (v u hu).gr g G1
  have hlw1 := G1.get hlw hne
  have hwm : w ∈ [u0, u1, u2, u3] := List.mem_of_getElem? hu
  have cw := c w hwm
  obtain ⟨cl, hwd, hexc⟩ := wrong_exc (fu := fu) (n := n) hw hA cw hb
  have hcall : callN (pr fu) (n + 7) 45 [.int which, .ref la, .bl nm] st1 = .ok (.ref st1.length) (st1 ++ [.lst [.str (word which i), w]]) := by
    cases hA with
    | z b c d => exact called_ex hw hla hexc hwd
    | o a c d ha => exact called_ex hw hla hexc hwd
    | t a b d ha hb2 => exact called_ex hw hla hexc hwd
    | h a b ha hb2 => exact called_ex hw hla hexc hwd
  generalize hst2 : st1 ++ [.lst [.str (word which i), w]] = st2 at hcall
  have ht2 : st2[st1.length]? = some (.lst [.str (word which i), w]) := by rw [← hst2]; simp
  generalize hst3 : st2 ++ [Ob.lst [.str "roads", .str "walkers", .str "asked", if which = 1 then .str "base" else .str "number"]] = st3
  have hg : ∃ gg, st3 = st1 ++ gg := ⟨[.lst [.str (word which i), w]] ++ [Ob.lst [.str "roads", .str "walkers", .str "asked", if which = 1 then .str "base" else .str "number"]], by rw [← hst3, ← hst2]; simp⟩
  obtain ⟨gg, hgg⟩ := hg
  have ht3 : st3[st1.length]? = some (.lst [.str (word which i), w]) := by
    rw [← hst3, List.getElem?_append_left (List.getElem?_eq_some_iff.mp ht2).1]
    exact ht2
  have cw3 : WV B lw st3 w := by rw [hgg]; exact cw.push
  obtain ⟨st4, hbl, hev⟩ := blamed_ok (fu := fu) (n := n + 4) (lt := st1.length) (wd := word which i) (by omega) cw3 ht3
  have hlw3 : st3[lw]? = some (.lst [u0, u1, u2, u3]) := by
    rw [hgg, List.getElem?_append_left (List.getElem?_eq_some_iff.mp hlw1).1]
    exact hlw1
  have g3 : GB st3 L (k + 3) := by rw [hgg]; exact g1.push
  refine ⟨.ref la, .ref st1.length, st4, ?_, hev.gb g3, hev.at hlw3, fun u hu => WV.evo (by rw [hgg]; exact (c u hu).push) hev⟩
  unfold innerK
  rw [hrun]
  have hc := ix_cases hi hx
  have h3 : (if which = 1 then A.str "base" else A.str "number") = A.str (word which 3) := by
    rcases hw with h | h | h <;> rw [h] <;> rfl
  have n2 : fIx (.ref st2.length) (.int x) st3 = .ok (.str (word which i)) st3 := by
    refine fIx_lst (xs := [.str "roads", .str "walkers", .str "asked", if which = 1 then .str "base" else .str "number"]) (by rw [← hst3]; simp) ?_
    rcases hc with ⟨rfl, rfl⟩ | ⟨rfl, rfl⟩ | ⟨rfl, rfl⟩ | ⟨rfl, rfl⟩
    · exact atI_nat (k := 0) rfl
    · exact atI_nat (k := 1) rfl
    · exact atI_nat (k := 2) rfl
    · exact atI_nat (k := 3) (congrArg some h3)
  have n3 : fIx (.ref st1.length) (.int 0) st2 = .ok (.str (word which i)) st2 := fIx_lst ht2 (atI_nat (k := 0) rfl)
  have n4 : fIx (.ref st1.length) (.int 0) st3 = .ok (.str (word which i)) st3 := fIx_lst ht3 (atI_nat (k := 0) rfl)
  have n5 : fIx (.ref lw) (.int x) st3 = .ok w st3 := by
    refine fIx_lst hlw3 ?_
    rw [hx]
    exact atI_nat hu
  have hwo : ∀ st : Sto, (if which = 1 then Rs.ok (A.str "base") st else Rs.ok (.str "number") st) = .ok (if which = 1 then .str "base" else .str "number") st := fun st => by
    split <;> rfl
  generalize word which i = wd at *
  unfold s4 s5 s6
  generalize (if which = 1 then A.str "base" else A.str "number") = nx at *
  simp [hcall, n3, hwo, hst3, n2, n4, n5, hbl]
end
end MP.Law

set_option exponentiation.threshold 10000
namespace MP.Law
open PySem PySem.Spec PyProof.Rows L2 MP
section
variable {fu n : Nat} {st : Sto}
def list8 : Es := .cons (.c (.int 0)) (.cons (.c (.int 6)) (.cons (.p1 fNeg (.c (.int 1))) (.cons (.c .non) (.cons (.c (.bl true)) (.cons (.c (.str "1")) (.cons (.pn fTup (.cons (.c (.int 1)) (.cons (.c (.int 1)) .nil))) (.cons (.pn fLst (.cons (.c (.int 2)) .nil)) .nil)))))))
def listB : Es := .cons (.pn fTup (.cons (.c (.int 1)) (.cons (.c (.int 1)) .nil))) (.cons (.pn fTup (.cons (.c (.int 1)) (.cons (.c (.int 2)) .nil))) (.cons (.pn fTup (.cons (.c (.int 0)) (.cons (.c (.int 1)) .nil))) (.cons (.pn fTup (.cons (.p1 fNeg (.c (.int 2))) (.cons (.c (.int 1)) .nil))) (.cons (.pn fTup (.cons (.c (.int 4)) (.cons (.c (.int 2)) .nil))) (.cons (.c (.int 3)) (.cons (.c .non) (.cons (.c (.str "2")) (.cons (.pn fLst (.cons (.c (.int 2)) (.cons (.c (.int 1)) .nil))) (.cons (.pn fTup (.cons (.c (.int 3)) (.cons (.c (.int 0)) .nil))) (.cons (.pn fDNew .nil) .nil))))))))))
def listN : Es := .cons (.c (.int 0)) (.cons (.p1 fNeg (.c (.int 1))) (.cons (.c .non) (.cons (.c (.bl true)) (.cons (.c (.str "7")) (.cons (.pn fTup (.cons (.c (.int 7)) (.cons (.c (.int 1)) .nil))) (.cons (.pn fLst (.cons (.c (.int 7)) .nil)) (.cons (.pn fDNew .nil) .nil)))))))
def v8 (a : Nat) : List A := [.int 0, .int 6, .int (-1), .non, .bl true, .str "1", .tup [.int 1, .int 1], .ref a]
def vB (a b : Nat) : List A := [.tup [.int 1, .int 1], .tup [.int 1, .int 2], .tup [.int 0, .int 1], .tup [.int (-2), .int 1], .tup [.int 4, .int 2], .int 3, .non, .str "2", .ref a, .tup [.int 3, .int 0], .ref b]
def vN (a b : Nat) : List A := [.int 0, .int (-1), .non, .bl true, .str "7", .tup [.int 7, .int 1], .ref a, .ref b]
theorem list8_ok {C : CallT} {env : En} : evE C (.pn fLst list8) env st = .ok (.ref (st.length + 1)) (st ++ [.lst [.int 2]] ++ [.lst (v8 st.length)]) := by
  unfold list8 v8
  simp
theorem listB_ok {C : CallT} {env : En} : evE C (.pn fLst listB) env st = .ok (.ref (st.length + 2)) (st ++ [.lst [.int 2, .int 1]] ++ [.dct []] ++ [.lst (vB st.length (st.length + 1))]) := by
  unfold listB vB
  simp [fDNew_nil]
theorem listN_ok {C : CallT} {env : En} : evE C (.pn fLst listN) env st = .ok (.ref (st.length + 2)) (st ++ [.lst [.int 7]] ++ [.dct []] ++ [.lst (vN st.length (st.length + 1))]) := by
  unfold listN vN
  simp [fDNew_nil]
theorem v8_wv {a : Nat} {v : A} (hv : v ∈ v8 a) (ha : st[a]? = some (.lst [.int 2])) (lw : Nat) (h1 : a ≠ lw) : WV 2 lw st v ∧ NotNum v := by
  unfold v8 at hv
  simp only [List.mem_cons, List.not_mem_nil, or_false] at hv
  rcases hv with rfl | rfl | rfl | rfl | rfl | rfl | rfl | rfl
  · exact ⟨.int _, fun j h => by cases h; decide⟩
  · exact ⟨.int _, fun j h => by cases h; decide⟩
  · exact ⟨.int _, fun j h => by cases h; decide⟩
  · exact ⟨.non, fun j h => by cases h⟩
  · exact ⟨.tru, fun j h => by cases h⟩
  · exact ⟨.str _, fun j h => by cases h⟩
  · exact ⟨.tup [1, 1] (by decide), fun j h => by cases h⟩
  · exact ⟨.ref ha (.inl ⟨[2], rfl, by decide⟩) h1, fun j h => by cases h⟩
theorem badB_two (x y : Int) (h : ¬ 0 < y ∨ Int.gcd x y ≠ 1 ∨ x ≤ y) (hx : x.natAbs < 100) (hy : y.natAbs < 100) : BadB (.tup [.int x, .int y]) := by
  intro xs e
  have h1 : asI xs = asI [x, y] := by
    injection e with e
    exact e.symm
  have h2 : xs = [x, y] := by
    unfold asI at h1
    match xs with
    | [] => cases h1
    | [_] => cases h1
    | [a, b] =>
      injection h1 with e1 e2
      injection e1 with e1
      injection e2 with e2
      injection e2 with e2
      rw [e1, e2]
    | _ :: _ :: _ :: _ => cases h1
  exact .inr ⟨x, y, h2, h, hx, hy⟩
theorem badB_non {v : A} (h : ∀ xs, v ≠ .tup xs) : BadB v := fun xs e => absurd e (h _)
theorem vB_wv {a b : Nat} {v : A} (hv : v ∈ vB a b) (ha : st[a]? = some (.lst [.int 2, .int 1])) (hb : st[b]? = some (.dct [])) (lw : Nat) (h1 : a ≠ lw) (h2 : b ≠ lw) : WV 2 lw st v ∧ BadB v := by
  unfold vB at hv
  simp only [List.mem_cons, List.not_mem_nil, or_false] at hv
  rcases hv with rfl | rfl | rfl | rfl | rfl | rfl | rfl | rfl | rfl | rfl | rfl
  · exact ⟨.tup [1, 1] (by decide), badB_two _ _ (by decide) (by decide) (by decide)⟩
  · exact ⟨.tup [1, 2] (by decide), badB_two _ _ (by decide) (by decide) (by decide)⟩
  · exact ⟨.tup [0, 1] (by decide), badB_two _ _ (by decide) (by decide) (by decide)⟩
  · exact ⟨.tup [-2, 1] (by decide), badB_two _ _ (by decide) (by decide) (by decide)⟩
  · exact ⟨.tup [4, 2] (by decide), badB_two _ _ (by decide) (by decide) (by decide)⟩
  · exact ⟨.int _, badB_non fun xs h => by cases h⟩
  · exact ⟨.non, badB_non fun xs h => by cases h⟩
  · exact ⟨.str _, badB_non fun xs h => by cases h⟩
  · exact ⟨.ref ha (.inl ⟨[2, 1], rfl, by decide⟩) h1, badB_non fun xs h => by cases h⟩
  · exact ⟨.tup [3, 0] (by decide), badB_two _ _ (by decide) (by decide) (by decide)⟩
  · exact ⟨.ref hb (.inr ⟨[], rfl, .inl rfl⟩) h2, badB_non fun xs h => by cases h⟩
theorem vN_wv {a b : Nat} {v : A} (hv : v ∈ vN a b) (ha : st[a]? = some (.lst [.int 7])) (hb : st[b]? = some (.dct [])) (lw : Nat) (h1 : a ≠ lw) (h2 : b ≠ lw) : WV 2 lw st v ∧ BadN v := by
  unfold vN at hv
  simp only [List.mem_cons, List.not_mem_nil, or_false] at hv
  rcases hv with rfl | rfl | rfl | rfl | rfl | rfl | rfl | rfl
  · exact ⟨.int _, fun j h => by cases h; decide⟩
  · exact ⟨.int _, fun j h => by cases h; decide⟩
  · exact ⟨.non, fun j h => by cases h⟩
  · exact ⟨.tru, fun j h => by cases h⟩
  · exact ⟨.str _, fun j h => by cases h⟩
  · exact ⟨.tup [7, 1] (by decide), fun j h => by cases h⟩
  · exact ⟨.ref ha (.inl ⟨[7], rfl, by decide⟩) h1, fun j h => by cases h⟩
  · exact ⟨.ref hb (.inr ⟨[], rfl, .inl rfl⟩) h2, fun j h => by cases h⟩
/-- a draw of the eight -/
theorem pick8 {L : Nat} {k : Int} {env : En} (g : GB st L k) (hk : k < 4000000000) (he : env[0]? = some (some (.ref L))) :
    ∃ v st', evE (callN (pr fu) (n + 2)) (.call 27 [] (.cons (.var 0) (.cons (.pn fLst list8) .nil))) env st = .ok v st' ∧ Dr 2 st' v ∧ NotNum v ∧ GB st' L (k + 1) ∧ Gr L st st' := by
  have hL := g.lt
  obtain ⟨v, st', e, hv, g', G⟩ := pick26 (fu := fu) (n := n) (st := st ++ [.lst [.int 2]] ++ [.lst (v8 st.length)]) (l := st.length + 1) (xs := v8 st.length) ((g.push).push) (by omega) (by simp) (by unfold v8; simp) (by unfold v8; simp) (by omega)
  have ha : st'[st.length]? = some (.lst [.int 2]) := G.get (by simp) (by omega)
  have hlen := G.len
  simp at hlen
  have hw := fun lw (h : st'.length ≤ lw) => v8_wv hv ha lw (by omega)
  refine ⟨v, st', ?_, fun lw h => (hw lw h).1, (hw st'.length (Nat.le_refl _)).2, g', (Gr.push.trans Gr.push).trans G⟩
  have e9 := list8_ok (C := callN (pr fu) (n + 2)) (env := env) (st := st)
  generalize E.pn fLst list8 = E9 at *
  generalize st ++ [.lst [.int 2]] ++ [.lst (v8 st.length)] = s9 at *
  simp [he, e9, e]
def lastE : E := .cond (.p2 fEq (.var 2) (.c (.int 1))) (.pn fLst listB) (.pn fLst listN)
theorem pickL {L lw : Nat} {k : Int} {which : Int} {env : En} (g : GB st L k) (hk : k < 4000000000) (he : env[0]? = some (some (.ref L))) (he2 : env[2]? = some (some (.int which))) (hlw : lw < st.length) :
    ∃ v st', evE (callN (pr fu) (n + 2)) (.call 27 [] (.cons (.var 0) (.cons lastE .nil))) env st = .ok v st' ∧ WV 2 lw st' v ∧ WrongAt which 3 v ∧ GB st' L (k + 1) ∧ Gr L st st' := by
  have hL := g.lt
  by_cases hw1 : which = 1
  · obtain ⟨v, st', e, hv, g', G⟩ := pick26 (fu := fu) (n := n) (st := st ++ [.lst [.int 2, .int 1]] ++ [.dct []] ++ [.lst (vB st.length (st.length + 1))]) (l := st.length + 2) (xs := vB st.length (st.length + 1)) (((g.push).push).push) (by omega) (by simp) (by unfold vB; simp) (by unfold vB; simp) (by omega)
    have ha : st'[st.length]? = some (.lst [.int 2, .int 1]) := G.get (by simp) (by omega)
    have hb : st'[st.length + 1]? = some (.dct []) := G.get (by simp) (by omega)
    have hw := vB_wv hv ha hb lw (by omega) (by omega)
    refine ⟨v, st', ?_, hw.1, ?_, g', ((Gr.push.trans Gr.push).trans Gr.push).trans G⟩
    · have e9 := listB_ok (C := callN (pr fu) (n + 2)) (env := env) (st := st)
      unfold lastE
      generalize E.pn fLst listB = E9 at *
      generalize E.pn fLst listN = E8 at *
      generalize st ++ [.lst [.int 2, .int 1]] ++ [.dct []] ++ [.lst (vB st.length (st.length + 1))] = s9 at *
      simp [he, he2, hw1, e9, e]
    · unfold WrongAt
      rw [if_neg (by decide), if_pos hw1]
      exact hw.2
  · obtain ⟨v, st', e, hv, g', G⟩ := pick26 (fu := fu) (n := n) (st := st ++ [.lst [.int 7]] ++ [.dct []] ++ [.lst (vN st.length (st.length + 1))]) (l := st.length + 2) (xs := vN st.length (st.length + 1)) (((g.push).push).push) (by omega) (by simp) (by unfold vN; simp) (by unfold vN; simp) (by omega)
    have ha : st'[st.length]? = some (.lst [.int 7]) := G.get (by simp) (by omega)
    have hb : st'[st.length + 1]? = some (.dct []) := G.get (by simp) (by omega)
    have hw := vN_wv hv ha hb lw (by omega) (by omega)
    refine ⟨v, st', ?_, hw.1, ?_, g', ((Gr.push.trans Gr.push).trans Gr.push).trans G⟩
    · have e9 := listN_ok (C := callN (pr fu) (n + 2)) (env := env) (st := st)
      unfold lastE
      generalize E.pn fLst listB = E9 at *
      generalize E.pn fLst listN = E8 at *
      generalize st ++ [.lst [.int 7]] ++ [.dct []] ++ [.lst (vN st.length (st.length + 1))] = s9 at *
      simp [he, he2, hw1, e9, e]
    · unfold WrongAt
      rw [if_neg (by decide), if_neg hw1]
      exact hw.2
def comp8 : E := .comp [4] itRange (.cons (.c (.int 3)) .nil) (.name 4) (.c (.bl true)) (.call 27 [] (.cons (.var 0) (.cons (.pn fLst list8) .nil)))
def appL : S := .expr (.p2 fApp (.p1 fIsL (.var 3)) (.call 27 [] (.cons (.var 0) (.cons lastE .nil))))
def r1 : S := .asg (.name 8) (.p2 fAdd (.c (.int 1)) (.call 26 [] (.cons (.var 0) (.cons (.c (.int 4)) .nil))))
def r2 : S := .asg (.name 9) (.p2 fAdd (.p2 fAdd (.var 8) (.c (.int 1))) (.call 26 [] (.cons (.var 0) (.cons (.p2 fSub (.c (.int 5)) (.var 8)) .nil))))
def r3 : S := .ite (.p1 fNot (.call 36 [] (.cons (.call 45 [] (.cons (.var 2) (.cons (.pn fLst (.cons (.p2 fAdd (.c (.int 1)) (.call 26 [] (.cons (.var 0) (.cons (.c (.int 5)) .nil)))) (.cons (.var 8) (.cons (.var 9) (.cons (.c .non) .nil))))) (.cons (.var 1) .nil)))) (.cons (.pn fLst (.cons (.c (.str "asked")) (.cons (.var 9) .nil))) .nil)))) (.cons (.ret (.c (.bl false))) .nil) (.nil)
def bodyR : Ss := .cons (.asg (.name 3) comp8) (.cons appL (.cons (.for_ itRange (.cons (.c (.int 4)) .nil) (.name 5) innerK) (.cons r1 (.cons r2 (.cons r3 .nil)))))
theorem b46_is : b46 fu = .cons (.for_ itRange (.cons (.c (.int 3)) .nil) (.name 2) bodyR) (.cons (.ret (.c (.bl true))) .nil) := rfl
theorem comp8_ok {L : Nat} {k : Int} (hk : k < 3900000000) : ∀ (env : En) (st : Sto) (x1 x2 x3 x4 x5 x6 x7 x8 x9 : Option A), env = [some (.ref L), x1, x2, x3, x4, x5, x6, x7, x8, x9] → GB st L k →
    ∃ v0 v1 v2 st', evE (callN (pr fu) (n + 2)) comp8 env st = .ok (.ref st'.length) (st' ++ [.lst [v0, v1, v2]]) ∧ GB st' L (k + 3) ∧ ∀ v ∈ [v0, v1, v2], Dr 2 st' v ∧ NotNum v := by
  intro env st x1 x2 x3 x4 x5 x6 x7 x8 x9 he g
  have hes : evEs (callN (pr fu) (n + 2)) (.cons (.c (.int 3)) .nil) env st = .ok [.int 3] st := by simp
  have hit := itRange_one (k := 3) (st := st) (by decide) (by decide)
  obtain ⟨acc, st', e, hl, g', hd⟩ := comp_inv (C := callN (pr fu) (n + 2)) (env := env) (own := [4]) (t := .name 4) (c := .c (.bl true)) (e := .call 27 [] (.cons (.var 0) (.cons (.pn fLst list8) .nil))) (lo := 0) (m := 3)
    (fun i acc s => acc.length = i ∧ GB s L (k + (i : Int)) ∧ ∀ v ∈ acc, Dr 2 s v ∧ NotNum v) hes hit (by decide) ⟨rfl, g.mono (by omega), fun v hv => by cases hv⟩ (by
      intro i acc s hi hh
      obtain ⟨hl, g1, hd⟩ := hh
      generalize (0 + (i : Int)) = x
      obtain ⟨v, s', e, d, nb, g2, G⟩ := pick8 (fu := fu) (n := n) (env := [some (.ref L), x1, x2, x3, some (.int x), x5, x6, x7, x8, x9]) g1 (by omega) rfl
      refine ⟨some v, s', ?_, by simp [hl], g2.mono (by push_cast; omega), fun u hu => ?_⟩
      · rw [he]
        simp only [T.put, wipeE, List.set]
        generalize E.call 27 [] (.cons (.var 0) (.cons (.pn fLst list8) .nil)) = ce at e ⊢
        simp [e]
      · rcases List.mem_append.mp hu with hu | hu
        · exact ⟨(hd u hu).1.gr g1 G, (hd u hu).2⟩
        · have : u = v := by simpa using hu
          subst this
          exact ⟨d, nb⟩)
  match acc, hl with
  | [v0, v1, v2], _ => exact ⟨v0, v1, v2, st', e, g'.mono (by push_cast; omega), hd⟩
theorem inner_ok {L lw : Nat} {k : Int} {u0 u1 u2 u3 : A} {which : Int} {x4 x8 x9 : Option A} (hk : k < 3900000000) (hne : lw ≠ L) (hw : which = 0 ∨ which = 1 ∨ which = 2) (b0 : NotNum u0) (b1 : NotNum u1) (b2 : NotNum u2) (b3 : WrongAt which 3 u3) :
    ∀ (env : En) (st : Sto) (nm : Bool) (x5 x6 x7 : Option A), env = [some (.ref L), some (.bl nm), some (.int which), some (.ref lw), x4, x5, x6, x7, x8, x9] → GB st L k → st[lw]? = some (.lst [u0, u1, u2, u3]) → (∀ u ∈ [u0, u1, u2, u3], WV 2 lw st u) →
      (evS (callN (pr fu) (n + 7)) (.for_ itRange (.cons (.c (.int 4)) .nil) (.name 5) innerK) env st).is (fun e s => ∃ nm y5 y6 y7, e = [some (.ref L), some (.bl nm), some (.int which), some (.ref lw), x4, y5, y6, y7, x8, x9] ∧ GB s L (k + 12)) (fun _ _ => False) noE noE := by
  intro env st nm x5 x6 x7 he g hlw v
  have hes : evEs (callN (pr fu) (n + 7)) (.cons (.c (.int 4)) .nil) env st = .ok [.int 4] st := by simp
  have hit := itRange_one (k := 4) (st := st) (by decide) (by decide)
  refine for_rng (lo := 0) (n := 4) (fun i e s => ∃ nm y5 y6 y7, e = [some (.ref L), some (.bl nm), some (.int which), some (.ref lw), x4, y5, y6, y7, x8, x9] ∧ GB s L (k + 3 * (i : Int)) ∧ s[lw]? = some (.lst [u0, u1, u2, u3]) ∧ ∀ u ∈ [u0, u1, u2, u3], WV (2 + i) lw s u) hes hit ⟨nm, x5, x6, x7, he, g.mono (by omega), hlw, v⟩ ?_ ?_
  · intro i e s hi hh
    obtain ⟨nm, y5, y6, y7, he1, g1, hlw1, c⟩ := hh
    generalize hx : (0 + (i : Int)) = x
    obtain ⟨w, hiw, hwr⟩ : ∃ w, [u0, u1, u2, u3][i]? = some w ∧ WrongAt which i w := by
      have : i = 0 ∨ i = 1 ∨ i = 2 ∨ i = 3 := by omega
      rcases this with rfl | rfl | rfl | rfl
      · exact ⟨u0, rfl, b0⟩
      · exact ⟨u1, rfl, b1⟩
      · exact ⟨u2, rfl, b2⟩
      · exact ⟨u3, rfl, b3⟩
    obtain ⟨z6, z7, s', e2, g2, hlw2, d⟩ := step_ok (fu := fu) (n := n) (x4 := x4) (x6 := y6) (x7 := y7) (x8 := x8) (x9 := x9) (nm := nm) (k := k + 3 * (i : Int)) g1 (by omega) hlw1 hne hw hi (by omega : x = i) hiw (by omega) c hwr
    rw [he1]
    simp only [T.put, List.set]
    rw [e2, SO.is_nx]
    exact ⟨!nm, _, _, _, rfl, g2.mono (by push_cast; omega), hlw2, by rw [show 2 + (i + 1) = 2 + i + 1 by omega]; exact d⟩
  · intro e s hh
    obtain ⟨nm, y5, y6, y7, he1, g1, _⟩ := hh
    exact ⟨nm, y5, y6, y7, he1, g1.mono (by push_cast; omega)⟩
/-- two pairs of a word and a value that is alike -/
theorem same_pair {l1 l2 : Nat} {w : Str} {x y : A} {g : Sto} (h1 : st[l1]? = some (.lst [.str w, x])) (h2 : st[l2]? = some (.lst [.str w, y])) (hs : callN (pr fu) (n + 1) 36 [x, y] st = .ok (.bl true) st) : callN (pr fu) (n + 2) 36 [.ref l1, .ref l2] st = .ok (.bl true) (st ++ [.lst []] ++ [.lst []]) := by
  refine same_seq (t := "list") (xs := [.str w, x]) (ys := [.str w, y]) (.inl rfl) ?_ ?_ ?_ ?_ rfl rfl (by show 2 ≤ 1000; decide) ?_
  · unfold tyOfA; dsimp only; rw [h1]
  · unfold tyOfA; dsimp only; rw [h2]
  · unfold itemsOf; dsimp only; rw [h1]
  · unfold itemsOf; dsimp only; rw [h2]
  · intro k x' y' e1 e2
    match k with
    | 0 =>
      simp at e1 e2
      subst e1 e2
      rw [same_str, decide_eq_true rfl]
    | 1 =>
      simp at e1 e2
      subst e1 e2
      exact hs
    | k + 2 => simp at e1
theorem few_ok {L : Nat} {k : Int} {which : Int} {nm : Bool} {x3 x4 x5 x6 x7 x8 x9 : Option A} (hw : which = 0 ∨ which = 1 ∨ which = 2) (g : GB st L k) (hk : k < 3900000000) :
    ∃ y8 y9 st', evSs (callN (pr fu) (n + 7)) (.cons r1 (.cons r2 (.cons r3 .nil))) [some (.ref L), some (.bl nm), some (.int which), x3, x4, x5, x6, x7, x8, x9] st = .nx [some (.ref L), some (.bl nm), some (.int which), x3, x4, x5, x6, x7, y8, y9] st' ∧ GB st' L (k + 3) := by
  obtain ⟨a, sa, e1, a0, a1, g1, _⟩ := take26 (fu := fu) (n := n + 6) (m := 4) g (by omega) (by decide) (by decide)
  have ha : 0 < 5 - (1 + a) := by omega
  obtain ⟨b, sb, e2, b0, b1, g2, _⟩ := take26 (fu := fu) (n := n + 6) (m := 5 - (1 + a)) g1 (by omega) ha (by omega)
  obtain ⟨c, sc, e3, c0, c1, g3, _⟩ := take26 (fu := fu) (n := n + 6) (m := 5) g2 (by omega) (by decide) (by decide)
  have hx := few_exc (fu := fu) (n := n) (st := sc ++ [.lst [.int (1 + c), .int (1 + a), .int (1 + a + 1 + b), .non]]) (r := 1 + c) (w := 1 + a) (a := 1 + a + 1 + b) (by omega) (by omega) (by omega) (by omega)
  have ht := team_exc (fu := fu) (n := n) (which := which) (a3 := .non) hw hx
  have hcall := called_ex (fu := fu) (n := n + 6) (nm := nm) (st := sc ++ [.lst [.int (1 + c), .int (1 + a), .int (1 + a + 1 + b), .non]]) (la := sc.length) (a0 := .int (1 + c)) (a1 := .int (1 + a)) (a2 := .int (1 + a + 1 + b)) (a3 := .non) (v := .int (1 + a + 1 + b)) (c := "InvalidAsked") (wd := "asked") hw (by rw [List.getElem?_append_right (Nat.le_refl _), Nat.sub_self]; rfl) ht Wd.a
  have hs := same_pair (fu := fu) (n := n + 5) (g := []) (st := sc ++ [.lst [.int (1 + c), .int (1 + a), .int (1 + a + 1 + b), .non]] ++ [.lst [.str "asked", .int (1 + a + 1 + b)]] ++ [.lst [.str "asked", .int (1 + a + 1 + b)]]) (l1 := sc.length + 1) (l2 := sc.length + 2) (w := "asked") (x := .int (1 + a + 1 + b)) (y := .int (1 + a + 1 + b)) (by simp) (by simp) (by rw [same_int, decide_eq_true rfl])
  refine ⟨some (.int (1 + a)), some (.int (1 + a + 1 + b)), sc ++ [.lst [.int (1 + c), .int (1 + a), .int (1 + a + 1 + b), .non]] ++ [.lst [.str "asked", .int (1 + a + 1 + b)]] ++ [.lst [.str "asked", .int (1 + a + 1 + b)]] ++ [.lst []] ++ [.lst []], ?_, (((((g3.push).push).push).push).push).mono (by omega)⟩
  unfold r1 r2 r3
  generalize h1a : 1 + a = a' at *
  generalize hab : a' + 1 + b = b' at *
  generalize h1c : 1 + c = c' at *
  simp at hcall hs
  simp [e1, h1a, e2, hab, e3, h1c, hcall, hs]
theorem bodyR_ok {L : Nat} {k : Int} (hk : k < 3800000000) {which : Int} (hw : which = 0 ∨ which = 1 ∨ which = 2) : ∀ (env : En) (st : Sto) (nm : Bool) (x3 x4 x5 x6 x7 x8 x9 : Option A), env = [some (.ref L), some (.bl nm), some (.int which), x3, x4, x5, x6, x7, x8, x9] → GB st L k →
    (evSs (callN (pr fu) (n + 7)) bodyR env st).is (fun e s => ∃ nm y2 y3 y4 y5 y6 y7 y8 y9, e = [some (.ref L), some (.bl nm), y2, y3, y4, y5, y6, y7, y8, y9] ∧ GB s L (k + 20)) (fun _ _ => False) noE noE := by
  intro env st nm x3 x4 x5 x6 x7 x8 x9 he g
  obtain ⟨v0, v1, v2, s1, e1, g1, d⟩ := comp8_ok (fu := fu) (n := n + 5) (by omega) env st _ _ _ _ _ _ _ _ _ he g
  have hL1 := g1.lt
  obtain ⟨v3, s2, e2, w3, r3', g2, G2⟩ := pickL (fu := fu) (n := n + 5) (which := which) (st := s1 ++ [.lst [v0, v1, v2]]) (lw := s1.length) (env := [some (.ref L), some (.bl nm), some (.int which), some (.ref s1.length), x4, x5, x6, x7, x8, x9]) (g1.push) (by omega) rfl rfl (by simp)
  have hlw2 : s2[s1.length]? = some (.lst [v0, v1, v2]) := G2.get (by simp) (by omega)
  have hl2 := (List.getElem?_eq_some_iff.mp hlw2).1
  have wv : ∀ v ∈ [v0, v1, v2], WV 2 s1.length s2 v := fun v hv => (((d v hv).1 s1.length (Nat.le_refl _)).push).gr (g1.push) G2
  have g3 : GB (s2.set s1.length (.lst [v0, v1, v2, v3])) L (k + 4) := by
    obtain ⟨s, b, c, d, h, h2, h3, h4, h5, h6⟩ := g2
    exact ⟨s, b, c, d, by rw [List.getElem?_set_ne (by omega)]; exact h, h2, h3, h4, h5, by omega⟩
  have hin := inner_ok (fu := fu) (n := n) (x4 := x4) (x8 := x8) (x9 := x9) (k := k + 4) (by omega) (by omega) hw (d v0 (by simp)).2 (d v1 (by simp)).2 (d v2 (by simp)).2 r3' [some (.ref L), some (.bl nm), some (.int which), some (.ref s1.length), x4, x5, x6, x7, x8, x9] (s2.set s1.length (.lst [v0, v1, v2, v3])) nm x5 x6 x7 rfl g3 (by rw [List.getElem?_set_self hl2]) (by
    intro u hu
    have : u ∈ [v0, v1, v2] ∨ u = v3 := by
      simp at hu ⊢
      rcases hu with h | h | h | h
      · exact .inl (.inl h)
      · exact .inl (.inr (.inl h))
      · exact .inl (.inr (.inr h))
      · exact .inr h
    rcases this with h | rfl
    · exact (wv u h).setlw
    · exact w3.setlw)
  have e3 : evS (callN (pr fu) (n + 7)) appL [some (.ref L), some (.bl nm), some (.int which), some (.ref s1.length), x4, x5, x6, x7, x8, x9] (s1 ++ [.lst [v0, v1, v2]]) = .nx [some (.ref L), some (.bl nm), some (.int which), some (.ref s1.length), x4, x5, x6, x7, x8, x9] (s2.set s1.length (.lst [v0, v1, v2, v3])) := by
    unfold appL
    have f1 : fIsL (.ref s1.length) (s1 ++ [.lst [v0, v1, v2]]) = .ok (.ref s1.length) (s1 ++ [.lst [v0, v1, v2]]) := by
      unfold fIsL
      simp
    have f2 : fApp (.ref s1.length) v3 s2 = .ok .non (s2.set s1.length (.lst [v0, v1, v2, v3])) := by
      unfold fApp
      dsimp only
      rw [hlw2]
      rfl
    generalize E.call 27 [] (.cons (.var 0) (.cons lastE .nil)) = ce at e2 ⊢
    generalize s1 ++ [.lst [v0, v1, v2]] = sa at *
    simp [f1, e2, f2]
  have e4 : evS (callN (pr fu) (n + 7)) (.asg (.name 3) comp8) env st = .nx [some (.ref L), some (.bl nm), some (.int which), some (.ref s1.length), x4, x5, x6, x7, x8, x9] (s1 ++ [.lst [v0, v1, v2]]) := by
    rw [he] at e1 ⊢
    generalize comp8 = c9 at *
    simp [e1]
  unfold bodyR
  rw [evSs_cons, e4, SO.sq_nx, evSs_cons, e3, SO.sq_nx, evSs_cons]
  refine SO.is_sq (hin.mono ?_ (fun _ _ h => h) (fun _ _ h => h) (fun _ _ h => h))
  intro e s hh
  obtain ⟨nm', y5, y6, y7, he', g'⟩ := hh
  obtain ⟨y8, y9, s', e5, g5⟩ := few_ok (fu := fu) (n := n) (nm := nm') (x3 := some (.ref s1.length)) (x4 := x4) (x5 := y5) (x6 := y6) (x7 := y7) (x8 := x8) (x9 := x9) hw g' (by omega)
  rw [he', e5, SO.is_nx]
  exact ⟨nm', _, _, _, _, _, _, _, _, rfl, g5.mono (by omega)⟩
theorem refused_ok {L : Nat} {k : Int} {nm : Bool} (g : GB st L k) (hk : k < 3700000000) : ∃ st', callN (pr fu) (n + 8) 46 [.ref L, .bl nm] st = .ok (.bl true) st' ∧ GB st' L (k + 60) := by
  have key : ∀ (env : En) (st : Sto) (nm : Bool), env = [some (.ref L), some (.bl nm), none, none, none, none, none, none, none, none] → GB st L k → (evS (callN (pr fu) (n + 7)) (.for_ itRange (.cons (.c (.int 3)) .nil) (.name 2) bodyR) env st).is (fun e s => GB s L (k + 60)) (fun _ _ => False) noE noE := by
    intro env st nm he g
    have hes : evEs (callN (pr fu) (n + 7)) (.cons (.c (.int 3)) .nil) env st = .ok [.int 3] st := by simp
    have hit := itRange_one (k := 3) (st := st) (by decide) (by decide)
    refine for_rng (lo := 0) (n := 3) (fun i e s => ∃ nm y2 y3 y4 y5 y6 y7 y8 y9, e = [some (.ref L), some (.bl nm), y2, y3, y4, y5, y6, y7, y8, y9] ∧ GB s L (k + 20 * (i : Int))) hes hit ⟨nm, _, _, _, _, _, _, _, _, he, g.mono (by omega)⟩ ?_ ?_
    · intro i e s hi hh
      obtain ⟨nm, y2, y3, y4, y5, y6, y7, y8, y9, he1, g1⟩ := hh
      generalize hx : (0 + (i : Int)) = x
      have hw : x = 0 ∨ x = 1 ∨ x = 2 := by omega
      rw [he1]
      simp only [T.put, List.set]
      refine (bodyR_ok (fu := fu) (n := n) (k := k + 20 * (i : Int)) (by omega) hw _ s nm _ _ _ _ _ _ _ rfl g1).mono ?_ (fun _ _ h => h) (fun _ _ h => h.elim) (fun _ _ h => h.elim)
      intro e s hh
      obtain ⟨nm', z2, z3, z4, z5, z6, z7, z8, z9, he', g'⟩ := hh
      exact ⟨nm', z2, z3, z4, z5, z6, z7, z8, z9, he', g'.mono (by push_cast; omega)⟩
    · intro e s hh
      obtain ⟨nm', z2, z3, z4, z5, z6, z7, z8, z9, he', g'⟩ := hh
      exact g'.mono (by push_cast; omega)
  rw [call_gen (a := 2) (b := 10) (body := b46 fu) rfl, b46_is]
  generalize S.for_ itRange (.cons (.c (.int 3)) .nil) (.name 2) bodyR = fs at key ⊢
  obtain ⟨e, s, he, h⟩ := SO.is_one (key _ st nm rfl g)
  refine ⟨s, ?_, h⟩
  simp [he]
end
end MP.Law

set_option exponentiation.threshold 10000
namespace MP.Law
open PySem PySem.Spec PyProof.Rows L2 MP
section
variable {fu n : Nat} {st : Sto}
theorem same_seqg {v u : A} {t : String} {xs ys : List A} (ht : t = "list" ∨ t = "tuple") (h1 : ∀ g, tyOfA v (st ++ g) = some t) (h2 : ∀ g, tyOfA u (st ++ g) = some t) (i1 : ∀ g, itemsOf v (st ++ g) = some xs) (i2 : ∀ g, itemsOf u (st ++ g) = some ys) (hn : isNonA u = false) (hl : xs.length = ys.length) (hs : ys.length ≤ 1000)
    (hp : ∀ (k : Nat) (x y : A) (g : Sto), xs[k]? = some x → ys[k]? = some y → ∃ g', callN (pr fu) n 36 [x, y] (st ++ g) = .ok (.bl true) (st ++ g ++ g')) : ∃ g, callN (pr fu) (n + 1) 36 [v, u] st = .ok (.bl true) (st ++ g) := by
  rw [call_gen (a := 2) (b := 4) (body := b36 fu) rfl]
  unfold b36
  obtain ⟨t1, t2, t3, t4, t5⟩ := isTy_seq ht
  have g1 := fun Ts g => fIsi_ty (Ts := Ts) (h1 g)
  have g2 := fun Ts g => fIsi_ty (Ts := Ts) (h2 g)
  have l1 := fun g => fLen_items (i1 g)
  have l2 := fun g => fLen_items (i2 g)
  rw [hl] at l1
  have key : ∀ env : En, env = [some v, some u, none, none] → ∃ g, evE (callN (pr fu) n) (.comp [3] itRange (.cons (.pn fLen (.cons (.var 1) .nil)) .nil) (.name 3) (.p1 fNot (.call 36 [] (.cons (.p2 fIx (.var 0) (.var 3)) (.cons (.p2 fIx (.var 1) (.var 3)) .nil)))) (.var 3)) env st = .ok (.ref (st ++ g).length) (st ++ g ++ [.lst []]) := by
    intro env he
    generalize hN : (ys.length : Int) = N at l1 l2
    have hes : evEs (callN (pr fu) n) (.cons (.pn fLen (.cons (.var 1) .nil)) .nil) env st = .ok [.int N] st := by
      rw [he]
      have := l2 []
      simp at this
      simp [this]
    have hit := itRange_one (k := N) (st := st) (by omega) (by omega)
    obtain ⟨acc, st', e, ha, g, hg⟩ := comp_inv (C := callN (pr fu) n) (env := env) (own := [3]) (t := .name 3) (c := .p1 fNot (.call 36 [] (.cons (.p2 fIx (.var 0) (.var 3)) (.cons (.p2 fIx (.var 1) (.var 3)) .nil)))) (e := .var 3) (lo := 0) (m := N.toNat)
      (fun i acc s => acc = [] ∧ ∃ g, s = st ++ g) hes hit (by omega) ⟨rfl, [], by simp⟩ (by
        intro i acc s hi hh
        obtain ⟨ha, g, rfl⟩ := hh
        have hi2 : i < ys.length := by omega
        have hi1 : i < xs.length := by omega
        have hz : (0 + (i : Int)) = ((i : Nat) : Int) := by omega
        have x1 : atI xs (0 + (i : Int)) = some xs[i] := by rw [hz]; exact atI_nat (by simp [hi1])
        have x2 : atI ys (0 + (i : Int)) = some ys[i] := by rw [hz]; exact atI_nat (by simp [hi2])
        have y1 := fIx_items (i1 g) x1
        have y2 := fIx_items (i2 g) x2
        obtain ⟨g', y3⟩ := hp i xs[i] ys[i] g (by simp [hi1]) (by simp [hi2])
        refine ⟨none, st ++ g ++ g', ?_, by simp [ha], g ++ g', by simp⟩
        generalize (0 + (i : Int)) = x at *
        rw [he]
        simp only [T.put, wipeE, List.set]
        generalize st ++ g ++ g' = sg at *
        generalize st ++ g = sg0 at *
        simp [y1, y2, y3])
    subst ha
    subst hg
    exact ⟨g, e⟩
  generalize E.comp [3] itRange (.cons (.pn fLen (.cons (.var 1) .nil)) .nil) (.name 3) (.p1 fNot (.call 36 [] (.cons (.p2 fIx (.var 0) (.var 3)) (.cons (.p2 fIx (.var 1) (.var 3)) .nil)))) (.var 3) = ce at key ⊢
  obtain ⟨g, key⟩ := key _ rfl
  refine ⟨g ++ [.lst []] ++ [.lst []], ?_⟩
  have e9 : ∀ sg : Sto, fEq (.ref sg.length) (.ref (sg.length + 1)) (sg ++ [.lst []] ++ [.lst []]) = .ok (.bl true) (sg ++ [.lst []] ++ [.lst []]) := fun sg => fEq_nil (by simp) (by simp)
  have e9 := e9 (st ++ g)
  have l1' := l1 []
  have l2' := l2 []
  have g1' := fun Ts => g1 Ts []
  have g2' := fun Ts => g2 Ts []
  simp at l1' l2' g1' g2'
  generalize (ys.length : Int) = N at l1' l2'
  rw [← List.append_assoc, ← List.append_assoc]
  generalize hsg : st ++ g = sg at *
  simp at e9
  simp [hn, g1', g2', t1, t2, t3, t4, t5, l1', l2', key, e9]
/-- values that are alike for good -/
inductive PV : Nat → A → Prop
  | int (n : Nat) (i : Int) : PV n (.int i)
  | str (n : Nat) (x : Str) : PV n (.str x)
  | non (n : Nat) : PV n .non
  | tup (n : Nat) (xs : List A) (hl : xs.length ≤ 1000) (h : ∀ x ∈ xs, PV n x) : PV (n + 1) (.tup xs)
theorem same_pv {m : Nat} {v : A} (h : PV m v) : ∀ st : Sto, ∃ g, callN (pr fu) (n + m + 1) 36 [v, v] st = .ok (.bl true) (st ++ g) := by
  induction h with
  | int m i => exact fun st => ⟨[], by rw [same_int, decide_eq_true rfl, List.append_nil]⟩
  | str m x => exact fun st => ⟨[], by rw [same_str, decide_eq_true rfl, List.append_nil]⟩
  | non m => exact fun st => ⟨[], by rw [same_non, List.append_nil]⟩
  | tup m xs hl h ih =>
    intro st
    have := same_seqg (fu := fu) (n := n + m + 1) (st := st) (v := .tup xs) (u := .tup xs) (t := "tuple") (xs := xs) (ys := xs) (.inr rfl) (fun _ => rfl) (fun _ => rfl) (fun _ => rfl) (fun _ => rfl) rfl rfl hl (fun k x y g e1 e2 => by
      rw [e1] at e2
      cases e2
      exact ih x (List.mem_of_getElem? e1) (st ++ g))
    exact this
theorem pv_fA (n : Nat) (x : Fq) : PV (n + 1) (fA x) := .tup _ _ (by show 2 ≤ 1000; decide) (by
  intro y hy
  simp at hy
  rcases hy with rfl | rfl
  · exact .int _ _
  · exact .int _ _)
/-- two told lists -/
theorem same_told {l1 l2 m : Nat} {w : Str} {v : A} (h1 : st[l1]? = some (.lst [.str w, v])) (h2 : st[l2]? = some (.lst [.str w, v])) (hv : PV m v) : ∃ g, callN (pr fu) (n + m + 2) 36 [.ref l1, .ref l2] st = .ok (.bl true) (st ++ g) := by
  have k1 := (List.getElem?_eq_some_iff.mp h1).1
  have k2 := (List.getElem?_eq_some_iff.mp h2).1
  have h1' : ∀ g, (st ++ g)[l1]? = some (.lst [.str w, v]) := fun g => by rw [List.getElem?_append_left k1]; exact h1
  have h2' : ∀ g, (st ++ g)[l2]? = some (.lst [.str w, v]) := fun g => by rw [List.getElem?_append_left k2]; exact h2
  refine same_seqg (n := n + m + 1) (t := "list") (xs := [.str w, v]) (ys := [.str w, v]) (.inl rfl) ?_ ?_ ?_ ?_ rfl rfl (by show 2 ≤ 1000; decide) ?_
  · intro g; unfold tyOfA; dsimp only; rw [h1' g]
  · intro g; unfold tyOfA; dsimp only; rw [h2' g]
  · intro g; unfold itemsOf; dsimp only; rw [h1' g]
  · intro g; unfold itemsOf; dsimp only; rw [h2' g]
  · intro k x y g e1 e2
    rw [e1] at e2
    cases e2
    match k with
    | 0 =>
      simp at e1
      subst e1
      exact same_pv (.str m _) _
    | 1 =>
      simp at e1
      subst e1
      exact same_pv hv _
    | k + 2 => simp at e1
end
end MP.Law

set_option exponentiation.threshold 10000
namespace MP.Law
open PySem PySem.Spec PyProof.Rows L2 MP
section
variable {fu n : Nat} {st : Sto}
def u1 : S := .asg (.tup [.name 5, .name 6]) (.pn fTup (.cons (.p2 fAdd (.c (.int 1)) (.call 26 [] (.cons (.var 2) (.cons (.c (.int 5)) .nil)))) (.cons (.p2 fAdd (.c (.int 1)) (.call 26 [] (.cons (.var 2) (.cons (.c (.int 5)) .nil)))) .nil)))
def u2 : S := .asg (.tup [.name 7, .name 8]) (.pn fTup (.cons (.p2 fAdd (.c (.int 1)) (.call 26 [] (.cons (.var 2) (.cons (.var 6) .nil)))) (.cons (.call 27 [] (.cons (.var 2) (.cons (.pn fLst (.cons (.c (.int 1)) (.cons (.c (.int 2)) (.cons (.c (.int 10)) (.cons (.c (.int 60)) (.cons (.c (.int 997)) (.cons (.p2 fPow (.c (.int 10)) (.c (.int 6))) (.cons (.p2 fPow (.c (.int 10)) (.c (.int 18))) .nil)))))))) .nil))) .nil)))
def u3 : S := .asg (.name 9) (.call 44 [] (.cons (.var 5) (.cons (.var 6) (.cons (.var 7) (.cons (.var 8) .nil)))))
def u4 : S := .ite (.p1 fNot (.call 36 [] (.cons (.call 45 [] (.cons (.c (.int 0)) (.cons (.pn fLst (.cons (.var 5) (.cons (.var 6) (.cons (.var 7) (.cons (.var 8) .nil))))) (.cons (.var 3) .nil)))) (.cons (.pn fLst (.cons (.c (.str "told")) (.cons (.pn fTup (.cons (.call 29 [] (.cons (.var 9) (.cons (.var 8) .nil))) (.cons (.call 29 [] (.cons (.p2 fAdd (.var 9) (.c (.int 1))) (.cons (.var 8) .nil))) .nil))) .nil))) .nil)))) (.cons (.ret (.c (.bl false))) .nil) (.nil)
def u5E : E := .call 27 [] (.cons (.var 2) (.cons (.pn fLst (.cons (.pn fTup (.cons (.c (.int 2)) (.cons (.c (.int 1)) .nil))) (.cons (.pn fTup (.cons (.c (.int 3)) (.cons (.c (.int 2)) .nil))) (.cons (.pn fTup (.cons (.c (.int 11)) (.cons (.c (.int 10)) .nil))) (.cons (.pn fTup (.cons (.c (.int 10)) (.cons (.c (.int 1)) .nil))) (.cons (.call 30 [] (.cons (.pn fTup (.cons (.c (.int 1)) (.cons (.c (.int 1)) .nil))) (.cons (.call 40 [] (.cons (.var 2) .nil)) .nil))) (.cons (.pn fTup (.cons (.p2 fAdd (.p2 fPow (.c (.int 10)) (.c (.int 9))) (.c (.int 1))) (.cons (.p2 fPow (.c (.int 10)) (.c (.int 9))) .nil))) .nil))))))) .nil))
def u5 : S := .asg (.name 10) u5E
def u6 : S := .asg (.name 11) (.call 47 [] (.cons (.var 5) (.cons (.var 6) (.cons (.var 7) (.cons (.var 10) .nil)))))
def u7 : S := .ite (.or_ (.p1 fNot (.call 36 [] (.cons (.call 45 [] (.cons (.c (.int 1)) (.cons (.pn fLst (.cons (.var 5) (.cons (.var 6) (.cons (.var 7) (.cons (.var 10) .nil))))) (.cons (.p1 fNot (.var 3)) .nil)))) (.cons (.pn fLst (.cons (.c (.str "told")) (.cons (.var 11) .nil))) .nil)))) (.p1 fNot (.call 42 [] (.cons (.var 5) (.cons (.var 6) (.cons (.var 7) (.cons (.var 11) .nil))))))) (.cons (.ret (.c (.bl false))) .nil) (.nil)
def u8 : S := .asg (.tup [.name 12, .name 8]) (.pn fTup (.cons (.call 45 [] (.cons (.c (.int 2)) (.cons (.pn fLst (.cons (.var 5) (.cons (.var 6) (.cons (.var 7) (.cons (.pn fMin (.cons (.var 8) (.cons (.p2 fPow (.c (.int 10)) (.c (.int 6))) .nil))) .nil))))) (.cons (.var 3) .nil)))) (.cons (.pn fMin (.cons (.var 8) (.cons (.p2 fPow (.c (.int 10)) (.c (.int 6))) .nil))) .nil)))
def u9 : S := .ite (.or_ (.p1 fNot (.call 36 [] (.cons (.call 45 [] (.cons (.c (.int 2)) (.cons (.pn fLst (.cons (.var 5) (.cons (.var 6) (.cons (.var 7) (.cons (.var 8) .nil))))) (.cons (.p1 fNot (.var 3)) .nil)))) (.cons (.var 12) .nil)))) (.p2 fNe (.p2 fIx (.var 12) (.c (.int 0))) (.c (.str "told")))) (.cons (.ret (.c (.bl false))) .nil) (.nil)
def u10 : S := .ite (.or_ (.and_ (.p2 fGeI (.var 6) (.p2 fMul (.var 5) (.var 7))) (.p2 fIsNot (.p2 fIx (.var 12) (.c (.int 1))) (.c .non))) (.and_ (.p2 fLtI (.var 6) (.p2 fMul (.var 5) (.var 7))) (.p1 fNot (.call 48 [] (.cons (.var 5) (.cons (.var 6) (.cons (.var 7) (.cons (.var 8) (.cons (.p2 fIx (.var 12) (.c (.int 1))) .nil))))))))) (.cons (.ret (.c (.bl false))) .nil) (.nil)
def u11 : S := .asg (.name 3) (.p1 fNot (.var 3))
def innerL : Ss := .cons u1 (.cons u2 (.cons u3 (.cons u4 (.cons u5 (.cons u6 (.cons u7 (.cons u8 (.cons u9 (.cons u10 (.cons u11 .nil))))))))))
def bodyL : Ss := .cons (.asg (.name 2) (.call 25 [] (.cons (.call 28 [] (.cons (.var 0) (.cons (.var 1) .nil))) .nil))) (.cons (.asg (.name 3) (.p2 fEq (.call 26 [] (.cons (.var 2) (.cons (.c (.int 2)) .nil))) (.c (.int 0)))) (.cons (.for_ itRange (.cons (.c (.int 6)) .nil) (.name 4) innerL) (.cons (.ite (.p1 fNot (.call 46 [] (.cons (.var 2) (.cons (.var 3) .nil)))) (.cons (.ret (.c (.bl false))) .nil) (.nil)) .nil)))
theorem b49_is : b49 fu = .cons (.for_ itRange (.cons (.c (.int 2)) .nil) (.name 1) bodyL) (.cons (.ret (.c (.bl true))) .nil) := rfl
/-- draws from a list of ints -/
theorem pickI {L : Nat} {k : Int} {ns : List Int} (g : GB st L k) (hk : k < 4000000000) (hn : 0 < ns.length) (hn2 : ns.length < 1000) :
    ∃ i st', callN (pr fu) (n + 2) 27 [.ref L, .ref st.length] (st ++ [.lst (asI ns)]) = .ok (.int i) st' ∧ i ∈ ns ∧ GB st' L (k + 1) := by
  have hL := g.lt
  obtain ⟨v, st', e, hv, g', G⟩ := pick26 (fu := fu) (n := n) (st := st ++ [.lst (asI ns)]) (l := st.length) (xs := asI ns) (g.push) (by omega) (by simp) (by unfold asI; simp; omega) (by unfold asI; simp; omega) (by omega)
  unfold asI at hv
  obtain ⟨i, hi, rfl⟩ := List.mem_map.mp hv
  exact ⟨i, st', e, hi, g'⟩
theorem b40_is : b40 fu = .cons (.ret (.call 29 [] (.cons (.call 27 [] (.cons (.var 0) (.cons (.pn fLst (.cons (.c (.int 1)) (.cons (.c (.int 1)) (.cons (.c (.int 2)) (.cons (.c (.int 3)) (.cons (.c (.int 4)) (.cons (.c (.int 5)) (.cons (.c (.int 7)) .nil)))))))) .nil))) (.cons (.call 27 [] (.cons (.var 0) (.cons (.pn fLst (.cons (.c (.int 1)) (.cons (.c (.int 1)) (.cons (.c (.int 2)) (.cons (.c (.int 3)) (.cons (.c (.int 4)) .nil)))))) .nil))) .nil)))) .nil := rfl
theorem dist_ok {L : Nat} {k : Int} (g : GB st L k) (hk : k < 3900000000) (hf : 2 ^ 8001 ≤ fu) : ∃ x y st', callN (pr fu) (n + 3) 40 [.ref L] st = .ok (fA (red x y)) st' ∧ 0 < x ∧ x ≤ 7 ∧ 0 < y ∧ y ≤ 4 ∧ GB st' L (k + 2) := by
  obtain ⟨i, s1, e1, hi, g1⟩ := pickI (fu := fu) (n := n) (ns := [1, 1, 2, 3, 4, 5, 7]) g (by omega) (by decide) (by decide)
  obtain ⟨j, s2, e2, hj, g2⟩ := pickI (fu := fu) (n := n) (ns := [1, 1, 2, 3, 4]) g1 (by omega) (by decide) (by decide)
  have hi' : 1 ≤ i ∧ i ≤ 7 := by simp at hi; omega
  have hj' : 1 ≤ j ∧ j ≤ 4 := by simp at hj; omega
  have e3 := (fr29 hf).ok (n + 1) s2 i j (by omega) (bd_mono (natAbs_lt (B := 5) (by omega) (by omega)) (by decide))
  refine ⟨i, j, s2, ?_, by omega, by omega, by omega, by omega, g2.mono (by omega)⟩
  rw [call_gen (a := 1) (b := 1) (body := b40 fu) rfl, b40_is]
  generalize red i j = R at *
  simp [asI] at e1 e2
  simp [e1, e2, e3]
/-- a drawn base -/
theorem u5E_ok {L : Nat} {k : Int} {env : En} (he : env[2]? = some (some (.ref L))) (g : GB st L k) (hk : k < 3800000000) (hf : 2 ^ 8001 ≤ fu) :
    ∃ x st', evE (callN (pr fu) 9) u5E env st = .ok (fA x) st' ∧ Base 31 x ∧ Int.gcd x.1 x.2 = 1 ∧ GB st' L (k + 3) := by
  obtain ⟨i, j, s1, e1, i0, i1, j0, j1, g1⟩ := dist_ok (fu := fu) (n := 6) g (by omega) hf
  have hL := g1.lt
  have F1 : Fr 5 (red i j) := red_bd j0 (natAbs_lt (by omega) (by omega)) (natAbs_lt (by omega) (by omega))
  have e2 := pl_fn (p := pr fu) (f := 30) (l := 29) (n := 7) (st := s1) rfl (fr29 hf) (fr1 (k := 1) (by decide)) F1 (by decide)
  have hX : pl (1, 1) (red i j) = red (j + i) j := by
    rw [one_red, pl_red (by decide) j0]
    refine red_eq (by omega) j0 ?_
    grind
  rw [hX, f1] at e2
  obtain ⟨v, s2, e3, hv, g2, _⟩ := pick26 (fu := fu) (n := 7) (st := s1 ++ [.lst [fA (2, 1), fA (3, 2), fA (11, 10), fA (10, 1), fA (red (j + i) j), fA (1000000001, 1000000000)]]) (l := s1.length) (xs := [fA (2, 1), fA (3, 2), fA (11, 10), fA (10, 1), fA (red (j + i) j), fA (1000000001, 1000000000)]) (g1.push) (by omega) (by simp) (by simp) (by simp) (by omega)
  have hb : ∀ p q : Int, 0 < q → q < p → p < 2 ^ 31 → Int.gcd p q = 1 → Base 31 (p, q) ∧ Int.gcd ((p, q) : Fq).1 ((p, q) : Fq).2 = 1 := fun p q h1 h2 h3 h4 => ⟨⟨⟨h1, natAbs_lt (B := 31) (show 0 ≤ p by omega) h3, natAbs_lt (B := 31) (show 0 ≤ q by omega) (by omega)⟩, h2⟩, h4⟩
  obtain ⟨x, rfl, hB, hg⟩ : ∃ x, v = fA x ∧ Base 31 x ∧ Int.gcd x.1 x.2 = 1 := by
    simp only [List.mem_cons, List.not_mem_nil, or_false] at hv
    rcases hv with rfl | rfl | rfl | rfl | rfl | rfl
    · exact ⟨_, rfl, hb 2 1 (by decide) (by decide) (by decide) (by decide)⟩
    · exact ⟨_, rfl, hb 3 2 (by decide) (by decide) (by decide) (by decide)⟩
    · exact ⟨_, rfl, hb 11 10 (by decide) (by decide) (by decide) (by decide)⟩
    · exact ⟨_, rfl, hb 10 1 (by decide) (by decide) (by decide) (by decide)⟩
    · refine ⟨_, rfl, ⟨red_bd j0 (natAbs_lt (B := 31) (by omega) (by omega)) (natAbs_lt (B := 31) (by omega) (by omega)), (base_of (z := j + i) (b := j) j0 (by omega) (bd_mono (natAbs_lt (B := 5) (by omega) (by omega)) (by decide)) (bd_mono (natAbs_lt (B := 5) (by omega) (by omega)) (by decide))).gt⟩, red_gcd j0⟩
    · exact ⟨_, rfl, hb 1000000001 1000000000 (by decide) (by decide) (by decide) (by decide)⟩
  refine ⟨x, s2, ?_, hB, hg, g2.mono (by omega)⟩
  unfold u5E
  have h9 : (10 : Int) ^ 9 = 1000000000 := by decide
  have hl : Nat.log2 1000000000 < 9000 := by decide
  generalize hXX : fA (red (j + i) j) = XX at *
  unfold fA at e3
  unfold fA
  unfold fA at e1 e2
  simp at e1 e2 e3
  simp [he, h9, e1, e2, e3]
end
end MP.Law

set_option exponentiation.threshold 10000
namespace MP.Law
open PySem PySem.Spec PyProof.Rows L2 MP
section
variable {fu n : Nat} {st : Sto}
theorem u4_ok {r w a b i : Int} {nm : Bool} (hr : 1 ≤ r ∧ r ≤ 5) (hw : 1 ≤ w ∧ w ≤ 5) (ha : 1 ≤ a ∧ a ≤ w) (hb : 1 ≤ b) (hb2 : b.natAbs < 2 ^ 60) (hi : IsAt (r * a) w b i) (hf : 2 ^ 8001 ≤ fu) : ∀ (env : En) (x0 x1 x2 x4 x10 x11 x12 : Option A), env = [x0, x1, x2, some (.bl nm), x4, some (.int r), some (.int w), some (.int a), some (.int b), some (.int (b + i)), x10, x11, x12] →
    ∃ g, evS (callN (pr fu) 9) u4 env st = .nx env (st ++ g) := by
  intro env x0 x1 x2 x4 x10 x11 x12 he
  obtain ⟨i', hi', e1⟩ := between_ok (fu := fu) (n := 2) (st := st ++ [.lst [.int r, .int w, .int a, .int b]]) hr hw ha hb hb2 hf
  have := hi.uniq (by omega) hi'
  subst this
  have e2 := called_ok (fu := fu) (n := 8) (st := st ++ [.lst [.int r, .int w, .int a, .int b]]) (which := 0) (nm := nm) (la := st.length) (a0 := .int r) (a1 := .int w) (a2 := .int a) (a3 := .int b) (.inl rfl) (by simp) (by rw [wf0]; exact e1)
  have e3 := fun st => (fr29 hf).ok 8 st (b + i) b (by omega) (bd_mono hb2 (by decide))
  have e4 := fun st => (fr29 hf).ok 8 st (b + i + 1) b (by omega) (bd_mono hb2 (by decide))
  obtain ⟨g, e5⟩ := same_told (fu := fu) (n := 4) (m := 3) (w := "told") (v := .tup [fA (red (b + i) b), fA (red (b + i + 1) b)]) (l1 := st.length + 1) (l2 := st.length + 2) (st := st ++ [.lst [.int r, .int w, .int a, .int b]] ++ [.lst [.str "told", .tup [fA (red (b + i) b), fA (red (b + i + 1) b)]]] ++ [.lst [.str "told", .tup [fA (red (b + i) b), fA (red (b + i + 1) b)]]]) (by simp) (by simp) (.tup 2 _ (by show 2 ≤ 1000; decide) (by
    intro x hx
    simp at hx
    rcases hx with rfl | rfl
    · exact pv_fA 1 _
    · exact pv_fA 1 _))
  refine ⟨[.lst [.int r, .int w, .int a, .int b]] ++ [.lst [.str "told", .tup [fA (red (b + i) b), fA (red (b + i + 1) b)]]] ++ [.lst [.str "told", .tup [fA (red (b + i) b), fA (red (b + i + 1) b)]]] ++ g, ?_⟩
  rw [he]
  unfold u4
  generalize fA (red (b + i) b) = X1 at *
  generalize fA (red (b + i + 1) b) = X2 at *
  generalize hbi : b + i = bi at *
  generalize hbi1 : bi + 1 = bi1 at *
  simp at e2 e5
  simp [e2, hbi1, e3, e4, e5]
theorem u7_ok {r w a : Int} {x : Fq} {nm : Bool} (hr : 1 ≤ r ∧ r ≤ 5) (hw : 1 ≤ w ∧ w ≤ 5) (ha : 1 ≤ a ∧ a ≤ w) (hx : Base 31 x) (hg : Int.gcd x.1 x.2 = 1) (hf : 2 ^ 8001 ≤ fu) : ∀ (env : En) (x0 x1 x2 x4 x8 x9 x12 : Option A), env = [x0, x1, x2, some (.bl nm), x4, some (.int r), some (.int w), some (.int a), x8, x9, some (fA x), some (fA (RB (r * a) w x)), x12] →
    ∃ g, evS (callN (pr fu) 9) u7 env st = .nx env (st ++ g) := by
  intro env x0 x1 x2 x4 x8 x9 x12 he
  have ha5 : 1 ≤ a ∧ a ≤ 5 := by omega
  have e1 := baseratio_ok (fu := fu) (n := 2) (st := st ++ [.lst [.int r, .int w, .int a, fA x]]) hr hw ha hx hg (by decide) hf
  have e2 := called_ok (fu := fu) (n := 8) (st := st ++ [.lst [.int r, .int w, .int a, fA x]]) (which := 1) (nm := !nm) (la := st.length) (a0 := .int r) (a1 := .int w) (a2 := .int a) (a3 := fA x) (.inr (.inl rfl)) (by simp) (by rw [wf1]; exact e1)
  obtain ⟨g, e5⟩ := same_told (fu := fu) (n := 6) (m := 1) (w := "told") (v := fA (RB (r * a) w x)) (l1 := st.length + 1) (l2 := st.length + 2) (st := st ++ [.lst [.int r, .int w, .int a, fA x]] ++ [.lst [.str "told", fA (RB (r * a) w x)]] ++ [.lst [.str "told", fA (RB (r * a) w x)]]) (by simp) (by simp) (pv_fA 0 _)
  have sB := RB_bd (W := r * a) (w := w) (by have := ra_bd hr ha5; omega) hw hx
  have e6 := fun st => keepsq_ok (fu := fu) (n := 7) (st := st) hr hw ha sB.a6 (by decide)
  have hk : decide (r * a ≤ w ∨ pbA (r * a) * (2 * (RB (r * a) w x).2) ^ w.toNat ≤ ((RB (r * a) w x).1 - (RB (r * a) w x).2) ^ w.toNat * pbD (r * a) w) = true := by
    rw [decide_eq_true_eq]
    by_cases hW : r * a ≤ w
    · exact .inl hW
    · have := RB_keeps (W := r * a) (w := w) (x := x.1) (y := x.2) (by omega) (by omega) hx.fr.p hx.gt
      rw [red_low hx.fr.p hg] at this
      exact .inr this
  rw [hk] at e6
  refine ⟨[.lst [.int r, .int w, .int a, fA x]] ++ [.lst [.str "told", fA (RB (r * a) w x)]] ++ [.lst [.str "told", fA (RB (r * a) w x)]] ++ g, ?_⟩
  rw [he]
  unfold u7
  clear hk sB
  generalize RB (r * a) w x = RX at *
  simp at e2 e5
  simp [e2, e5, e6]
/-- what is told of the best base -/
def bestV (W w b i : Int) : A := if W ≤ w then .non else fA (red (sel W w b i) b)
theorem best_tell {r w a b : Int} (hr : 1 ≤ r ∧ r ≤ 5) (hw : 1 ≤ w ∧ w ≤ 5) (ha : 1 ≤ a ∧ a ≤ w) (hb : 1 ≤ b) (hb2 : b.natAbs < 2 ^ 20) (hf : 2 ^ 8001 ≤ fu) :
    ∃ i, (r * a ≤ w ∨ Rt (r * a) w b i ∧ i.natAbs < 2 ^ 106) ∧ ∀ st : Sto, ∃ g, callN (pr fu) (n + 6) 24 [.int r, .int w, .int a, .int b] st = .ok (bestV (r * a) w b i) (st ++ g) := by
  unfold bestV
  by_cases hW : r * a ≤ w
  · refine ⟨0, .inl hW, fun st => ⟨[], ?_⟩⟩
    rw [if_pos hW, List.append_nil]
    exact best_none hr hw ha hb hW
  · obtain ⟨i, g, h1, h2, _⟩ := best_ok (fu := fu) (n := n) (st := []) hr hw ha hb hb2 (by omega) hf
    refine ⟨i, .inr ⟨h1, h2⟩, fun st => ?_⟩
    rw [if_neg hW]
    obtain ⟨j, g, h3, _, h4⟩ := best_ok (fu := fu) (n := n) (st := st) hr hw ha hb hb2 (by omega) hf
    have := h1.uniq (by omega) h3
    subst this
    exact ⟨g, h4⟩
theorem pv_best {W w b i : Int} : PV 1 (bestV W w b i) := by
  unfold bestV
  split
  · exact .non _
  · exact pv_fA 0 _
theorem u8_ok {r w a b0 b : Int} {nm : Bool} {V : A} (hm : (if 1000000 < b0 then 1000000 else b0) = b) (h : ∀ st : Sto, ∃ g, callN (pr fu) 8 24 [.int r, .int w, .int a, .int b] st = .ok V (st ++ g)) : ∀ (env : En) (x0 x1 x2 x4 x9 x10 x11 x12 : Option A), env = [x0, x1, x2, some (.bl nm), x4, some (.int r), some (.int w), some (.int a), some (.int b0), x9, x10, x11, x12] →
    ∃ g, evS (callN (pr fu) 9) u8 env st = .nx [x0, x1, x2, some (.bl nm), x4, some (.int r), some (.int w), some (.int a), some (.int b), x9, x10, x11, some (.ref (st ++ g).length)] (st ++ g ++ [.lst [.str "told", V]]) := by
  intro env x0 x1 x2 x4 x9 x10 x11 x12 he
  obtain ⟨g, e1⟩ := h (st ++ [.lst [.int r, .int w, .int a, .int b]])
  have e2 := called_ok (fu := fu) (n := 8) (st := st ++ [.lst [.int r, .int w, .int a, .int b]]) (which := 2) (nm := nm) (la := st.length) (a0 := .int r) (a1 := .int w) (a2 := .int a) (a3 := .int b) (.inr (.inr rfl)) (by simp) (by rw [wf2]; exact e1)
  have h6 : (10 : Int) ^ 6 = 1000000 := by decide
  refine ⟨[.lst [.int r, .int w, .int a, .int b]] ++ g, ?_⟩
  rw [he]
  unfold u8
  have e3 : ∀ st : Sto, fMin [.int b0, .int 1000000] st = .ok (.int b) st := fun st => by
    rw [← hm]
    rfl
  rw [← List.append_assoc]
  generalize hsg : st ++ [.lst [.int r, .int w, .int a, .int b]] ++ g = sg at *
  simp at e2
  simp [h6, e3, e2]
theorem u9_ok {r w a b : Int} {nm : Bool} {V : A} {l : Nat} (hV : PV 1 V) (hl : st[l]? = some (.lst [.str "told", V])) (h : ∀ st : Sto, ∃ g, callN (pr fu) 8 24 [.int r, .int w, .int a, .int b] st = .ok V (st ++ g)) : ∀ (env : En) (x0 x1 x2 x4 x9 x10 x11 : Option A), env = [x0, x1, x2, some (.bl nm), x4, some (.int r), some (.int w), some (.int a), some (.int b), x9, x10, x11, some (.ref l)] →
    ∃ g, evS (callN (pr fu) 9) u9 env st = .nx env (st ++ g) := by
  intro env x0 x1 x2 x4 x9 x10 x11 he
  obtain ⟨g, e1⟩ := h (st ++ [.lst [.int r, .int w, .int a, .int b]])
  have e2 := called_ok (fu := fu) (n := 8) (st := st ++ [.lst [.int r, .int w, .int a, .int b]]) (which := 2) (nm := !nm) (la := st.length) (a0 := .int r) (a1 := .int w) (a2 := .int a) (a3 := .int b) (.inr (.inr rfl)) (by simp) (by rw [wf2]; exact e1)
  have hlt := (List.getElem?_eq_some_iff.mp hl).1
  obtain ⟨g2, e5⟩ := same_told (fu := fu) (n := 6) (m := 1) (w := "told") (v := V) (l1 := (st ++ [Ob.lst [.int r, .int w, .int a, .int b]] ++ g).length) (l2 := l) (st := st ++ [.lst [.int r, .int w, .int a, .int b]] ++ g ++ [.lst [.str "told", V]]) (by rw [List.getElem?_append_right (Nat.le_refl _), Nat.sub_self]; rfl) (by rw [List.append_assoc, List.append_assoc, List.getElem?_append_left hlt]; exact hl) hV
  have e6 : fIx (.ref l) (.int 0) (st ++ [.lst [.int r, .int w, .int a, .int b]] ++ g ++ [.lst [.str "told", V]] ++ g2) = .ok (.str "told") (st ++ [.lst [.int r, .int w, .int a, .int b]] ++ g ++ [.lst [.str "told", V]] ++ g2) := by
    refine fIx_lst (xs := [.str "told", V]) ?_ (atI_nat (k := 0) rfl)
    rw [List.append_assoc, List.append_assoc, List.append_assoc, List.getElem?_append_left hlt]
    exact hl
  refine ⟨[.lst [.int r, .int w, .int a, .int b]] ++ g ++ [.lst [.str "told", V]] ++ g2, ?_⟩
  rw [he]
  unfold u9
  rw [show st ++ ([.lst [.int r, .int w, .int a, .int b]] ++ g ++ [.lst [.str "told", V]] ++ g2) = st ++ [.lst [.int r, .int w, .int a, .int b]] ++ g ++ [.lst [.str "told", V]] ++ g2 by simp]
  generalize hs3 : st ++ [.lst [.int r, .int w, .int a, .int b]] ++ g ++ [.lst [.str "told", V]] ++ g2 = s3 at *
  generalize hs2 : st ++ [.lst [.int r, .int w, .int a, .int b]] ++ g ++ [.lst [.str "told", V]] = s2 at *
  simp at e2 e5
  simp [e2, e5, e6]
theorem u10_ok {r w a b i : Int} {l : Nat} (hr : 1 ≤ r ∧ r ≤ 5) (hw : 1 ≤ w ∧ w ≤ 5) (ha : 1 ≤ a ∧ a ≤ w) (hb : 1 ≤ b) (hb2 : b.natAbs < 2 ^ 20) (hi : r * a ≤ w ∨ Rt (r * a) w b i ∧ i.natAbs < 2 ^ 106) (hl : st[l]? = some (.lst [.str "told", bestV (r * a) w b i])) (hf : 2 ^ 8001 ≤ fu) : ∀ (env : En) (x0 x1 x2 x3 x4 x9 x10 x11 : Option A), env = [x0, x1, x2, x3, x4, some (.int r), some (.int w), some (.int a), some (.int b), x9, x10, x11, some (.ref l)] →
    evS (callN (pr fu) 9) u10 env st = .nx env st := by
  intro env x0 x1 x2 x3 x4 x9 x10 x11 he
  have ha5 : 1 ≤ a ∧ a ≤ 5 := by omega
  have m0 := m_ra hr ha5
  have e1 : fIx (.ref l) (.int 1) st = .ok (bestV (r * a) w b i) st := fIx_lst hl (atI_nat (k := 1) rfl)
  rw [he]
  unfold u10
  by_cases hW : r * a ≤ w
  · have hW2 : ¬ w < r * a := by omega
    have hv : bestV (r * a) w b i = .non := by unfold bestV; rw [if_pos hW]
    rw [hv] at e1
    generalize hWW : r * a = W at *
    simp [m0, hWW, hW, hW2, e1]
  · have hW2 : w < r * a := by omega
    obtain ⟨hR, hib⟩ := hi.resolve_left hW
    have hv : bestV (r * a) w b i = fA (red (sel (r * a) w b i) b) := by unfold bestV; rw [if_neg hW]
    rw [hv] at e1
    have hG := sel_good (by omega) hW2 (by omega) hR
    have hs : sel (r * a) w b i = i ∨ sel (r * a) w b i = i + 1 := by
      unfold sel
      split
      · exact .inr rfl
      · split
        · exact .inl rfl
        · exact .inr rfl
    have i0 := hR.1
    have h107 : (2 : Nat) ^ 107 = 2 ^ 106 * 2 := rfl
    have hsb : (sel (r * a) w b i).natAbs < 2 ^ 107 ∧ (sel (r * a) w b i + 1).natAbs < 2 ^ 107 := by
      have h106 : 8 ≤ 2 ^ 106 := by decide
      rcases hs with h | h
      · rw [h]; omega
      · rw [h]; omega
    have e2 := isbest_ok (fu := fu) (n := 5) (st := st) hr hw ha hb hb2 hW2 hG hsb.1 hsb.2 hf
    generalize fA (red (sel (r * a) w b i) b) = X at *
    generalize hWW : r * a = W at *
    simp [m0, hWW, hW, hW2, e1, e2]
end
end MP.Law

set_option exponentiation.threshold 10000
namespace MP.Law
open PySem PySem.Spec PyProof.Rows L2 MP
section
variable {fu n : Nat} {st : Sto}
theorem turn_ok {L : Nat} {k : Int} {nm : Bool} {x0 x1 x4 x5 x6 x7 x8 x9 x10 x11 x12 : Option A} (g : GB st L k) (hk : k < 3700000000) (hf : 2 ^ 8001 ≤ fu) :
    ∃ y5 y6 y7 y8 y9 y10 y11 y12 st', evSs (callN (pr fu) 9) innerL [x0, x1, some (.ref L), some (.bl nm), x4, x5, x6, x7, x8, x9, x10, x11, x12] st = .nx [x0, x1, some (.ref L), some (.bl (!nm)), x4, y5, y6, y7, y8, y9, y10, y11, y12] st' ∧ GB st' L (k + 7) := by
  obtain ⟨r, s1, e1, a1, b1, g1, _⟩ := take26 (fu := fu) (n := 8) (m := 5) g (by omega) (by decide) (by decide)
  obtain ⟨w, s2, e2, a2, b2, g2, _⟩ := take26 (fu := fu) (n := 8) (m := 5) g1 (by omega) (by decide) (by decide)
  have f1' : evS (callN (pr fu) 9) u1 [x0, x1, some (.ref L), some (.bl nm), x4, x5, x6, x7, x8, x9, x10, x11, x12] st = .nx [x0, x1, some (.ref L), some (.bl nm), x4, some (.int (1 + r)), some (.int (1 + w)), x7, x8, x9, x10, x11, x12] s2 := by
    unfold u1
    simp [e1, e2]
  have hr : 1 ≤ 1 + r ∧ 1 + r ≤ 5 := by omega
  have hw : 1 ≤ 1 + w ∧ 1 + w ≤ 5 := by omega
  generalize 1 + r = r' at *
  generalize 1 + w = w' at *
  obtain ⟨a, s3, e3, a3, b3, g3, _⟩ := take26 (fu := fu) (n := 8) (m := w') g2 (by omega) (by omega) (by omega)
  obtain ⟨b, s4, e4, hb, g4⟩ := pickI (fu := fu) (n := 7) (ns := [1, 2, 10, 60, 997, 1000000, 1000000000000000000]) g3 (by omega) (by decide) (by decide)
  have f2' : evS (callN (pr fu) 9) u2 [x0, x1, some (.ref L), some (.bl nm), x4, some (.int r'), some (.int w'), x7, x8, x9, x10, x11, x12] s2 = .nx [x0, x1, some (.ref L), some (.bl nm), x4, some (.int r'), some (.int w'), some (.int (1 + a)), some (.int b), x9, x10, x11, x12] s4 := by
    unfold u2
    have h6 : (10 : Int) ^ 6 = 1000000 := by decide
    have h18 : (10 : Int) ^ 18 = 1000000000000000000 := by decide
    simp [asI] at e4
    simp [e3, h6, h18, e4]
  have hb1 : 1 ≤ b ∧ b ≤ 1000000000000000000 := by simp at hb; omega
  have ha : 1 ≤ 1 + a ∧ 1 + a ≤ w' := by omega
  have hb60 : b.natAbs < 2 ^ 60 := natAbs_lt (by omega) (by omega)
  generalize 1 + a = a' at *
  obtain ⟨i, hi, e5⟩ := near_ok (fu := fu) (n := 4) (st := s4) hr hw ha hb1.1 hb60 hf
  have f3' : evS (callN (pr fu) 9) u3 [x0, x1, some (.ref L), some (.bl nm), x4, some (.int r'), some (.int w'), some (.int a'), some (.int b), x9, x10, x11, x12] s4 = .nx [x0, x1, some (.ref L), some (.bl nm), x4, some (.int r'), some (.int w'), some (.int a'), some (.int b), some (.int (b + i)), x10, x11, x12] s4 := by
    unfold u3
    generalize b + i = bi at *
    simp [e5]
  obtain ⟨ga, f4'⟩ := u4_ok (fu := fu) (st := s4) (nm := nm) hr hw ha hb1.1 hb60 hi hf _ x0 x1 (some (.ref L)) x4 x10 x11 x12 rfl
  obtain ⟨x, s5, e6, hB, hg, g5⟩ := u5E_ok (fu := fu) (st := s4 ++ ga) (L := L) (env := [x0, x1, some (.ref L), some (.bl nm), x4, some (.int r'), some (.int w'), some (.int a'), some (.int b), some (.int (b + i)), x10, x11, x12]) rfl (g4.push) (by omega) hf
  have f5' : evS (callN (pr fu) 9) u5 [x0, x1, some (.ref L), some (.bl nm), x4, some (.int r'), some (.int w'), some (.int a'), some (.int b), some (.int (b + i)), x10, x11, x12] (s4 ++ ga) = .nx [x0, x1, some (.ref L), some (.bl nm), x4, some (.int r'), some (.int w'), some (.int a'), some (.int b), some (.int (b + i)), some (fA x), x11, x12] s5 := by
    unfold u5
    generalize u5E = ee at *
    generalize b + i = bi at *
    simp [e6]
  have e7 := lrb_ok (fu := fu) (n := 6) (st := s5) hr (show 1 ≤ a' ∧ a' ≤ 5 by omega) hw hB (by decide) hf
  have f6' : evS (callN (pr fu) 9) u6 [x0, x1, some (.ref L), some (.bl nm), x4, some (.int r'), some (.int w'), some (.int a'), some (.int b), some (.int (b + i)), some (fA x), x11, x12] s5 = .nx [x0, x1, some (.ref L), some (.bl nm), x4, some (.int r'), some (.int w'), some (.int a'), some (.int b), some (.int (b + i)), some (fA x), some (fA (RB (r' * a') w' x)), x12] s5 := by
    unfold u6
    generalize b + i = bi at *
    generalize RB (r' * a') w' x = RX at *
    simp [e7]
  obtain ⟨gb, f7'⟩ := u7_ok (fu := fu) (st := s5) (nm := nm) hr hw ha hB hg hf _ x0 x1 (some (.ref L)) x4 (some (.int b)) (some (.int (b + i))) x12 rfl
  generalize hbb : (if 1000000 < b then 1000000 else b) = b' at *
  have hb' : 1 ≤ b' ∧ b' ≤ 1000000 := by split at hbb <;> omega
  have hb20 : b'.natAbs < 2 ^ 20 := natAbs_lt (by omega) (by omega)
  obtain ⟨j, hj, hbt⟩ := best_tell (fu := fu) (n := 2) hr hw ha hb'.1 hb20 hf
  obtain ⟨gc, f8'⟩ := u8_ok (fu := fu) (st := s5 ++ gb) (nm := nm) hbb hbt _ x0 x1 (some (.ref L)) x4 (some (.int (b + i))) (some (fA x)) (some (fA (RB (r' * a') w' x))) x12 rfl
  have hl8 : (s5 ++ gb ++ gc ++ [Ob.lst [.str "told", bestV (r' * a') w' b' j]])[(s5 ++ gb ++ gc).length]? = some (.lst [.str "told", bestV (r' * a') w' b' j]) := by rw [List.getElem?_append_right (Nat.le_refl _), Nat.sub_self]; rfl
  obtain ⟨gd, f9'⟩ := u9_ok (fu := fu) (st := s5 ++ gb ++ gc ++ [.lst [.str "told", bestV (r' * a') w' b' j]]) (nm := nm) (l := (s5 ++ gb ++ gc).length) pv_best hl8 hbt _ x0 x1 (some (.ref L)) x4 (some (.int (b + i))) (some (fA x)) (some (fA (RB (r' * a') w' x))) rfl
  have hl9 : (s5 ++ gb ++ gc ++ [Ob.lst [.str "told", bestV (r' * a') w' b' j]] ++ gd)[(s5 ++ gb ++ gc).length]? = some (.lst [.str "told", bestV (r' * a') w' b' j]) := by
    rw [List.getElem?_append_left (List.getElem?_eq_some_iff.mp hl8).1]
    exact hl8
  have f10' := u10_ok (fu := fu) (st := s5 ++ gb ++ gc ++ [.lst [.str "told", bestV (r' * a') w' b' j]] ++ gd) hr hw ha hb'.1 hb20 hj hl9 hf _ x0 x1 (some (.ref L)) (some (.bl nm)) x4 (some (.int (b + i))) (some (fA x)) (some (fA (RB (r' * a') w' x))) rfl
  have g9 : GB (s5 ++ gb ++ gc ++ [.lst [.str "told", bestV (r' * a') w' b' j]] ++ gd) L (k + 7) := (((((g5.push).push).push).push)).mono (by omega)
  generalize (s5 ++ gb ++ gc).length = l12 at *
  generalize s5 ++ gb ++ gc ++ [.lst [.str "told", bestV (r' * a') w' b' j]] ++ gd = s9 at *
  refine ⟨some (.int r'), some (.int w'), some (.int a'), some (.int b'), some (.int (b + i)), some (fA x), some (fA (RB (r' * a') w' x)), some (.ref l12), s9, ?_, g9⟩
  unfold innerL
  rw [evSs_cons, f1', SO.sq_nx, evSs_cons, f2', SO.sq_nx, evSs_cons, f3', SO.sq_nx, evSs_cons, f4', SO.sq_nx, evSs_cons, f5', SO.sq_nx, evSs_cons, f6', SO.sq_nx, evSs_cons, f7', SO.sq_nx, evSs_cons, f8', SO.sq_nx, evSs_cons, f9', SO.sq_nx, evSs_cons, f10', SO.sq_nx, evSs_cons]
  unfold u11
  generalize b + i = bi at *
  generalize RB (r' * a') w' x = RX at *
  simp
theorem cell_ok {ns : List Int} {x : Int} (h0 : 0 ≤ x) (hx : x < 10) : ∃ z st', callN (pr fu) (n + 1) 28 [.rol (asI ns), .int x] st = .ok (.int z) st' := by
  have e1 : fLen [.rol (asI ns)] st = .ok (.int (ns.length : Int)) st := by
    unfold fLen
    dsimp only
    unfold asI
    rw [List.length_map]
  rw [call_gen (a := 2) (b := 2) (body := b28 fu) rfl]
  unfold b28
  by_cases h : x < (ns.length : Int)
  · have hk : x.toNat < ns.length := by omega
    have e2 : fIx (.rol (asI ns)) (.int x) st = .ok (.int ns[x.toNat]) st := by
      refine fIx_rol ?_
      have h5 := atI_nat (xs := asI ns) (k := x.toNat) (z := .int ns[x.toNat]) (by unfold asI; simp [hk])
      rwa [Int.toNat_of_nonneg h0] at h5
    refine ⟨ns[x.toNat], st, ?_⟩
    generalize ns[x.toNat] = v at *
    generalize (ns.length : Int) = N at *
    simp [e1, h, e2]
  · have e3 : fSl [.rol (asI ns), .non, .int 1] st = .ok (.ref st.length) (st ++ [.lst (cutA (asI ns) none (some 1))]) := rfl
    obtain ⟨ms, hms⟩ : ∃ ms, intsOf (cutA (asI ns) none (some 1)) = some ms := by
      have all : ∀ l : List Int, intsOf (asI l) = some l := fun l => by
        induction l with
        | nil => rfl
        | cons a l ih =>
          show (intsOf (asI l)).map (a :: ·) = _
          rw [ih]
          rfl
      refine ⟨(ns.drop (HT.sIx (asI ns).length 0 none)).take (HT.sIx (asI ns).length (asI ns).length (some 1) - HT.sIx (asI ns).length 0 none), ?_⟩
      unfold cutA
      rw [← all]
      unfold asI
      rw [List.map_take, List.map_drop]
    have e4 : fSum [.ref st.length] (st ++ [.lst (cutA (asI ns) none (some 1))]) = .ok (.int ms.sum) (st ++ [.lst (cutA (asI ns) none (some 1))]) := by
      unfold fSum
      dsimp only
      have : listOf (.ref st.length) (st ++ [.lst (cutA (asI ns) none (some 1))]) = some (cutA (asI ns) none (some 1)) := by
        unfold listOf
        simp
      rw [this]
      rw [show (some (cutA (asI ns) none (some 1))).bind intsOf = some ms from hms]
    have lx : x.natAbs.log2 ≤ 4 := log2_lt_of (natAbs_lt h0 (by omega))
    have l6 : Nat.log2 6173 = 12 := by decide
    have m1 : Nat.log2 6173 + x.natAbs.log2 < 1000000 := by omega
    refine ⟨6173 * x + ms.sum % 1000033, st ++ [.lst (cutA (asI ns) none (some 1))], ?_⟩
    generalize (ns.length : Int) = N at *
    generalize ms.sum = S at *
    generalize cutA (asI ns) none (some 1) = cc at *
    simp [e1, h, e3, e4, m1]
theorem main (ns : List Int) (h1 : ns.length ≤ 63) (h2 : ∀ z ∈ ns, PySem.Builtin.Int.intBits z ≤ 1048576) : ∃ fu st', callN (pr fu) 10 49 [.rol (ns.map A.int)] [] = .ok (.bl true) st' := by
  obtain ⟨fu, hf⟩ : ∃ fu : Nat, 2 ^ 8001 ≤ fu := ⟨_, Nat.le_refl _⟩
  refine ⟨fu, ?_⟩
  have turns : ∀ (env : En) (st : Sto) (L : Nat) (nm : Bool) (x0 x1 x4 x5 x6 x7 x8 x9 x10 x11 x12 : Option A), env = [x0, x1, some (.ref L), some (.bl nm), x4, x5, x6, x7, x8, x9, x10, x11, x12] → GB st L 1 →
      (evS (callN (pr fu) 9) (.for_ itRange (.cons (.c (.int 6)) .nil) (.name 4) innerL) env st).is (fun e s => ∃ nm x4 x5 x6 x7 x8 x9 x10 x11 x12, e = [x0, x1, some (.ref L), some (.bl nm), x4, x5, x6, x7, x8, x9, x10, x11, x12] ∧ GB s L 43) (fun _ _ => False) noE noE := by
    intro env st L nm x0 x1 x4 x5 x6 x7 x8 x9 x10 x11 x12 he g
    have hes : evEs (callN (pr fu) 9) (.cons (.c (.int 6)) .nil) env st = .ok [.int 6] st := by simp
    have hit := itRange_one (k := 6) (st := st) (by decide) (by decide)
    refine for_rng (lo := 0) (n := 6) (fun i e s => ∃ nm x4 x5 x6 x7 x8 x9 x10 x11 x12, e = [x0, x1, some (.ref L), some (.bl nm), x4, x5, x6, x7, x8, x9, x10, x11, x12] ∧ GB s L (1 + 7 * (i : Int))) hes hit ⟨nm, x4, x5, x6, x7, x8, x9, x10, x11, x12, he, g.mono (by omega)⟩ ?_ ?_
    · intro i e s hi hh
      obtain ⟨nm, x4, x5, x6, x7, x8, x9, x10, x11, x12, he1, g1⟩ := hh
      generalize (0 + (i : Int)) = x
      obtain ⟨y5, y6, y7, y8, y9, y10, y11, y12, s', e2, g2⟩ := turn_ok (fu := fu) (nm := nm) (x0 := x0) (x1 := x1) (x4 := some (.int x)) (x5 := x5) (x6 := x6) (x7 := x7) (x8 := x8) (x9 := x9) (x10 := x10) (x11 := x11) (x12 := x12) g1 (by omega) hf
      rw [he1]
      simp only [T.put, List.set]
      rw [e2, SO.is_nx]
      exact ⟨_, _, _, _, _, _, _, _, _, _, rfl, g2.mono (by push_cast; omega)⟩
    · intro e s hh
      obtain ⟨nm, x4, x5, x6, x7, x8, x9, x10, x11, x12, he1, g1⟩ := hh
      exact ⟨nm, x4, x5, x6, x7, x8, x9, x10, x11, x12, he1, g1.mono (by decide)⟩
  have key : ∀ (env : En) (st : Sto) (x1 x2 x3 x4 x5 x6 x7 x8 x9 x10 x11 x12 : Option A), env = [some (.rol (asI ns)), x1, x2, x3, x4, x5, x6, x7, x8, x9, x10, x11, x12] →
      (evS (callN (pr fu) 9) (.for_ itRange (.cons (.c (.int 2)) .nil) (.name 1) bodyL) env st).is (fun e s => True) (fun _ _ => False) noE noE := by
    intro env st x1 x2 x3 x4 x5 x6 x7 x8 x9 x10 x11 x12 he
    have hes : evEs (callN (pr fu) 9) (.cons (.c (.int 2)) .nil) env st = .ok [.int 2] st := by simp
    have hit := itRange_one (k := 2) (st := st) (by decide) (by decide)
    refine for_rng (lo := 0) (n := 2) (fun i e s => ∃ x1 x2 x3 x4 x5 x6 x7 x8 x9 x10 x11 x12, e = [some (.rol (asI ns)), x1, x2, x3, x4, x5, x6, x7, x8, x9, x10, x11, x12]) hes hit ⟨_, _, _, _, _, _, _, _, _, _, _, _, he⟩ ?_ (fun _ _ _ => True.intro)
    intro i e s hi hh
    obtain ⟨x1, x2, x3, x4, x5, x6, x7, x8, x9, x10, x11, x12, he1⟩ := hh
    generalize hx : (0 + (i : Int)) = x
    obtain ⟨z, s1, e1⟩ := cell_ok (fu := fu) (n := 8) (st := s) (ns := ns) (x := x) (by omega) (by omega)
    obtain ⟨o, e2, g2⟩ := box_ok (p := pr fu) (n := 8) (f := 25) (st := s1) (x := z) (M := 2147483629) rfl (by decide) (by decide)
    obtain ⟨r, s3, e3, a3, b3, g3, _⟩ := take26 (fu := fu) (n := 8) (m := 2) g2 (by decide) (by decide) (by decide)
    rw [he1]
    simp only [T.put, List.set]
    have f1 : evS (callN (pr fu) 9) (.asg (.name 2) (.call 25 [] (.cons (.call 28 [] (.cons (.var 0) (.cons (.var 1) .nil))) .nil))) [some (.rol (asI ns)), some (.int x), x2, x3, x4, x5, x6, x7, x8, x9, x10, x11, x12] s = .nx [some (.rol (asI ns)), some (.int x), some (.ref s1.length), x3, x4, x5, x6, x7, x8, x9, x10, x11, x12] (s1 ++ [o]) := by
      simp [e1, e2]
    have f2 : evS (callN (pr fu) 9) (.asg (.name 3) (.p2 fEq (.call 26 [] (.cons (.var 2) (.cons (.c (.int 2)) .nil))) (.c (.int 0)))) [some (.rol (asI ns)), some (.int x), some (.ref s1.length), x3, x4, x5, x6, x7, x8, x9, x10, x11, x12] (s1 ++ [o]) = .nx [some (.rol (asI ns)), some (.int x), some (.ref s1.length), some (.bl (decide (r = 0))), x4, x5, x6, x7, x8, x9, x10, x11, x12] s3 := by
      simp [e3]
    have ht := turns _ s3 s1.length (decide (r = 0)) (some (.rol (asI ns))) (some (.int x)) x4 x5 x6 x7 x8 x9 x10 x11 x12 rfl (g3.mono (by omega))
    unfold bodyL
    rw [evSs_cons, f1, SO.sq_nx, evSs_cons, f2, SO.sq_nx, evSs_cons]
    refine SO.is_sq (ht.mono ?_ (fun _ _ h => h) (fun _ _ h => h.elim) (fun _ _ h => h.elim))
    intro e s4 hh
    obtain ⟨nm, y4, y5, y6, y7, y8, y9, y10, y11, y12, he2, g4⟩ := hh
    obtain ⟨s5, e5, _⟩ := refused_ok (fu := fu) (n := 1) (nm := nm) g4 (by decide)
    rw [he2]
    simp [e5]
  rw [call_gen (a := 1) (b := 13) (body := b49 fu) rfl, b49_is]
  generalize S.for_ itRange (.cons (.c (.int 2)) .nil) (.name 1) bodyL = fs at key ⊢
  obtain ⟨e, s, he, _⟩ := SO.is_one (key _ [] none none none none none none none none none none none none rfl)
  refine ⟨s, ?_⟩
  unfold asI at he
  simp [he]
end
end MP.Law

open PySem PySem.W PyProof.Rows
set_option maxRecDepth 100000 in
set_option maxHeartbeats 0 in
theorem PySem.Challenge.cw_scoutroads_k26_bases_and_neighbors_of_th_holds : PySem.Challenge.rw_scoutroads_k26_bases_and_neighbors_of_th.Holds := by
  w_on; o_law; k_head; (case hw => w_witness2)
  k_fill
  refine MP.walk_mp (k := 12) (x := "script") (g := fun fu => MP.callN (MP.Law.pr fu) 10 49) rfl (by decide) rfl ⟨rfl, by decide, by decide⟩ (fun w h Y => PySem.W.kIn_of Y) MP.Law.main ?F
  case F =>
    intro w mg fa h KX G hmg
    refine' MP.Law.all_mk KX G hmg ?a0 ?l0 ?c0 ?k0 ?a1 ?l1 ?c1 ?k1 ?a2 ?l2 ?c2 ?k2 ?a3 ?l3 ?c3 ?k3 ?a4 ?l4 ?c4 ?k4 ?a5 ?l5 ?c5 ?k5 ?a6 ?l6 ?c6 ?k6 ?a7 ?l7 ?c7 ?k7 ?a8 ?l8 ?c8 ?k8 ?a9 ?l9 ?c9 ?k9 ?a10 ?l10 ?c10 ?k10 ?a11 ?l11 ?c11 ?k11 ?a12 ?l12 ?c12 ?k12 ?a13 ?l13 ?c13 ?k13 ?a14 ?l14 ?c14 ?k14 ?a15 ?l15 ?c15 ?k15 ?a16 ?l16 ?c16 ?k16 ?a17 ?l17 ?c17 ?k17 ?a18 ?l18 ?c18 ?k18 ?a19 ?l19 ?c19 ?k19 ?a20 ?l20 ?c20 ?k20 ?a21 ?l21 ?c21 ?k21 ?a22 ?l22 ?c22 ?k22 ?a23 ?l23 ?c23 ?k23 ?a24 ?l24 ?c24 ?k24 ?a25 ?l25 ?c25 ?k25 ?a26 ?l26 ?c26 ?k26 ?a27 ?l27 ?c27 ?k27 ?a28 ?l28 ?c28 ?k28 ?a29 ?l29 ?c29 ?k29 ?a30 ?l30 ?c30 ?k30 ?a31 ?l31 ?c31 ?k31 ?a32 ?l32 ?c32 ?k32 ?a33 ?l33 ?c33 ?k33 ?a34 ?l34 ?c34 ?k34 ?a35 ?l35 ?c35 ?k35 ?a36 ?l36 ?c36 ?k36 ?a37 ?l37 ?c37 ?k37 ?a38 ?l38 ?c38 ?k38 ?a39 ?l39 ?c39 ?k39 ?a40 ?l40 ?c40 ?k40 ?a41 ?l41 ?c41 ?k41 ?a42 ?l42 ?c42 ?k42 ?a43 ?l43 ?c43 ?k43 ?a44 ?l44 ?c44 ?k44 ?a45 ?l45 ?c45 ?k45 ?a46 ?l46 ?c46 ?k46 ?a47 ?l47 ?c47 ?k47 ?a48 ?l48 ?c48 ?k48 ?a49 ?l49 ?c49 ?k49 ?n_abs ?n_bool ?n_dict ?n_int ?n_isinstance ?n_len ?n_list ?n_min ?n_range ?n_str ?n_sum ?n_tuple ?i_gcd ?k_WHOLE ?kl_WHOLE ?k_MOST_TEAM ?k_TWICE ?kl_TWICE ?Ca0 ?Cx0 ?Cs0 ?Cg0 ?Ch0 ?Cn0 ?Ci0 ?Ct0 ?Cl0 ?Cc0 ?Ck0 ?CK0 ?Ce0 ?CT0 ?Cd0 ?CI0 ?Ca1 ?Cx1 ?Cs1 ?Cg1 ?Ch1 ?Cn1 ?Ci1 ?Ct1 ?Cl1 ?Cc1 ?Ck1 ?CK1 ?Ce1 ?CT1 ?Cd1 ?CI1 ?Ca2 ?Cx2 ?Cs2 ?Cg2 ?Ch2 ?Cn2 ?Ci2 ?Ct2 ?Cl2 ?Cc2 ?Ck2 ?CK2 ?Ce2 ?CT2 ?Cd2 ?CI2 ?Ca3 ?Cx3 ?Cs3 ?Cg3 ?Ch3 ?Cn3 ?Ci3 ?Ct3 ?Cl3 ?Cc3 ?Ck3 ?CK3 ?Ce3 ?CT3 ?Cd3 ?CI3 ?Ca4 ?Cx4 ?Cs4 ?Cg4 ?Ch4 ?Cn4 ?Ci4 ?Ct4 ?Cl4 ?Cc4 ?Ck4 ?CK4 ?Ce4 ?CT4 ?Cd4 ?CI4 ?Z0_0 ?Z1_0 ?Z2_0 ?Z3_0 ?Z4_0 ?Z0_1 ?Z1_1 ?Z2_1 ?Z3_1 ?Z4_1 ?Z0_2 ?Z1_2 ?Z2_2 ?Z3_2 ?Z4_2 ?Z0_3 ?Z1_3 ?Z2_3 ?Z3_3 ?Z4_3 ?Z0_4 ?Z1_4 ?Z2_4 ?Z3_4 ?Z4_4
    (case a0 => k_is)
    (case l0 => k_is)
    (case c0 => k_is)
    (case k0 => k_is)
    (case a1 => k_is)
    (case l1 => k_is)
    (case c1 => k_is)
    (case k1 => k_is)
    (case a2 => k_is)
    (case l2 => k_is)
    (case c2 => k_is)
    (case k2 => k_is)
    (case a3 => k_is)
    (case l3 => k_is)
    (case c3 => k_is)
    (case k3 => k_is)
    (case a4 => k_is)
    (case l4 => k_is)
    (case c4 => k_is)
    (case k4 => k_is)
    (case a5 => k_is)
    (case l5 => k_is)
    (case c5 => k_is)
    (case k5 => k_is)
    (case a6 => k_is)
    (case l6 => k_is)
    (case c6 => k_is)
    (case k6 => k_is)
    (case a7 => k_is)
    (case l7 => k_is)
    (case c7 => k_is)
    (case k7 => k_is)
    (case a8 => k_is)
    (case l8 => k_is)
    (case c8 => k_is)
    (case k8 => k_is)
    (case a9 => k_is)
    (case l9 => k_is)
    (case c9 => k_is)
    (case k9 => k_is)
    (case a10 => k_is)
    (case l10 => k_is)
    (case c10 => k_is)
    (case k10 => k_is)
    (case a11 => k_is)
    (case l11 => k_is)
    (case c11 => k_is)
    (case k11 => k_is)
    (case a12 => k_is)
    (case l12 => k_is)
    (case c12 => k_is)
    (case k12 => k_is)
    (case a13 => k_is)
    (case l13 => k_is)
    (case c13 => k_is)
    (case k13 => k_is)
    (case a14 => k_is)
    (case l14 => k_is)
    (case c14 => k_is)
    (case k14 => k_is)
    (case a15 => k_is)
    (case l15 => k_is)
    (case c15 => k_is)
    (case k15 => k_is)
    (case a16 => k_is)
    (case l16 => k_is)
    (case c16 => k_is)
    (case k16 => k_is)
    (case a17 => k_is)
    (case l17 => k_is)
    (case c17 => k_is)
    (case k17 => k_is)
    (case a18 => k_is)
    (case l18 => k_is)
    (case c18 => k_is)
    (case k18 => k_is)
    (case a19 => k_is)
    (case l19 => k_is)
    (case c19 => k_is)
    (case k19 => k_is)
    (case a20 => k_is)
    (case l20 => k_is)
    (case c20 => k_is)
    (case k20 => k_is)
    (case a21 => k_is)
    (case l21 => k_is)
    (case c21 => k_is)
    (case k21 => k_is)
    (case a22 => k_is)
    (case l22 => k_is)
    (case c22 => k_is)
    (case k22 => k_is)
    (case a23 => k_is)
    (case l23 => k_is)
    (case c23 => k_is)
    (case k23 => k_is)
    (case a24 => k_is)
    (case l24 => k_is)
    (case c24 => k_is)
    (case k24 => k_is)
    (case a25 => k_is)
    (case l25 => k_is)
    (case c25 => k_is)
    (case k25 => k_is)
    (case a26 => k_is)
    (case l26 => k_is)
    (case c26 => k_is)
    (case k26 => k_is)
    (case a27 => k_is)
    (case l27 => k_is)
    (case c27 => k_is)
    (case k27 => k_is)
    (case a28 => k_is)
    (case l28 => k_is)
    (case c28 => k_is)
    (case k28 => k_is)
    (case a29 => k_is)
    (case l29 => k_is)
    (case c29 => k_is)
    (case k29 => k_is)
    (case a30 => k_is)
    (case l30 => k_is)
    (case c30 => k_is)
    (case k30 => k_is)
    (case a31 => k_is)
    (case l31 => k_is)
    (case c31 => k_is)
    (case k31 => k_is)
    (case a32 => k_is)
    (case l32 => k_is)
    (case c32 => k_is)
    (case k32 => k_is)
    (case a33 => k_is)
    (case l33 => k_is)
    (case c33 => k_is)
    (case k33 => k_is)
    (case a34 => k_is)
    (case l34 => k_is)
    (case c34 => k_is)
    (case k34 => k_is)
    (case a35 => k_is)
    (case l35 => k_is)
    (case c35 => k_is)
    (case k35 => k_is)
    (case a36 => k_is)
    (case l36 => k_is)
    (case c36 => k_is)
    (case k36 => k_is)
    (case a37 => k_is)
    (case l37 => k_is)
    (case c37 => k_is)
    (case k37 => k_is)
    (case a38 => k_is)
    (case l38 => k_is)
    (case c38 => k_is)
    (case k38 => k_is)
    (case a39 => k_is)
    (case l39 => k_is)
    (case c39 => k_is)
    (case k39 => k_is)
    (case a40 => k_is)
    (case l40 => k_is)
    (case c40 => k_is)
    (case k40 => k_is)
    (case a41 => k_is)
    (case l41 => k_is)
    (case c41 => k_is)
    (case k41 => k_is)
    (case a42 => k_is)
    (case l42 => k_is)
    (case c42 => k_is)
    (case k42 => k_is)
    (case a43 => k_is)
    (case l43 => k_is)
    (case c43 => k_is)
    (case k43 => k_is)
    (case a44 => k_is)
    (case l44 => k_is)
    (case c44 => k_is)
    (case k44 => k_is)
    (case a45 => k_is)
    (case l45 => k_is)
    (case c45 => k_is)
    (case k45 => k_is)
    (case a46 => k_is)
    (case l46 => k_is)
    (case c46 => k_is)
    (case k46 => k_is)
    (case a47 => k_is)
    (case l47 => k_is)
    (case c47 => k_is)
    (case k47 => k_is)
    (case a48 => k_is)
    (case l48 => k_is)
    (case c48 => k_is)
    (case k48 => k_is)
    (case a49 => k_is)
    (case l49 => k_is)
    (case c49 => k_is)
    (case k49 => k_is)
    (case n_abs => k_is)
    (case n_bool => k_is)
    (case n_dict => k_is)
    (case n_int => k_is)
    (case n_isinstance => k_is)
    (case n_len => k_is)
    (case n_list => k_is)
    (case n_min => k_is)
    (case n_range => k_is)
    (case n_str => k_is)
    (case n_sum => k_is)
    (case n_tuple => k_is)
    (case i_gcd => k_is)
    (case k_WHOLE => k_is)
    (case kl_WHOLE => k_is)
    (case k_MOST_TEAM => k_is)
    (case k_TWICE => k_is)
    (case kl_TWICE => k_is)
    (case Ca0 => k_is)
    (case Cx0 => k_is)
    (case Cs0 => k_is)
    (case Cg0 => k_is)
    (case Ch0 => k_is)
    (case Cn0 => k_is)
    (case Ci0 => k_is)
    (case Ct0 => k_is)
    (case Cl0 => k_is)
    (case Cc0 => k_is)
    (case Ck0 => k_is)
    (case CK0 => k_is)
    (case Ce0 => k_is)
    (case CT0 => k_is)
    (case Cd0 => k_is)
    (case CI0 => k_is)
    (case Ca1 => k_is)
    (case Cx1 => k_is)
    (case Cs1 => k_is)
    (case Cg1 => k_is)
    (case Ch1 => k_is)
    (case Cn1 => k_is)
    (case Ci1 => k_is)
    (case Ct1 => k_is)
    (case Cl1 => k_is)
    (case Cc1 => k_is)
    (case Ck1 => k_is)
    (case CK1 => k_is)
    (case Ce1 => k_is)
    (case CT1 => k_is)
    (case Cd1 => k_is)
    (case CI1 => k_is)
    (case Ca2 => k_is)
    (case Cx2 => k_is)
    (case Cs2 => k_is)
    (case Cg2 => k_is)
    (case Ch2 => k_is)
    (case Cn2 => k_is)
    (case Ci2 => k_is)
    (case Ct2 => k_is)
    (case Cl2 => k_is)
    (case Cc2 => k_is)
    (case Ck2 => k_is)
    (case CK2 => k_is)
    (case Ce2 => k_is)
    (case CT2 => k_is)
    (case Cd2 => k_is)
    (case CI2 => k_is)
    (case Ca3 => k_is)
    (case Cx3 => k_is)
    (case Cs3 => k_is)
    (case Cg3 => k_is)
    (case Ch3 => k_is)
    (case Cn3 => k_is)
    (case Ci3 => k_is)
    (case Ct3 => k_is)
    (case Cl3 => k_is)
    (case Cc3 => k_is)
    (case Ck3 => k_is)
    (case CK3 => k_is)
    (case Ce3 => k_is)
    (case CT3 => k_is)
    (case Cd3 => k_is)
    (case CI3 => k_is)
    (case Ca4 => k_is)
    (case Cx4 => k_is)
    (case Cs4 => k_is)
    (case Cg4 => k_is)
    (case Ch4 => k_is)
    (case Cn4 => k_is)
    (case Ci4 => k_is)
    (case Ct4 => k_is)
    (case Cl4 => k_is)
    (case Cc4 => k_is)
    (case Ck4 => k_is)
    (case CK4 => k_is)
    (case Ce4 => k_is)
    (case CT4 => k_is)
    (case Cd4 => k_is)
    (case CI4 => k_is)
    (case Z0_0 => k_is)
    (case Z1_0 => k_is)
    (case Z2_0 => k_is)
    (case Z3_0 => k_is)
    (case Z4_0 => k_is)
    (case Z0_1 => k_is)
    (case Z1_1 => k_is)
    (case Z2_1 => k_is)
    (case Z3_1 => k_is)
    (case Z4_1 => k_is)
    (case Z0_2 => k_is)
    (case Z1_2 => k_is)
    (case Z2_2 => k_is)
    (case Z3_2 => k_is)
    (case Z4_2 => k_is)
    (case Z0_3 => k_is)
    (case Z1_3 => k_is)
    (case Z2_3 => k_is)
    (case Z3_3 => k_is)
    (case Z4_3 => k_is)
    (case Z0_4 => k_is)
    (case Z1_4 => k_is)
    (case Z2_4 => k_is)
    (case Z3_4 => k_is)
    (case Z4_4 => k_is)
