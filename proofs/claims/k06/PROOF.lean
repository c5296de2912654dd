import PyProof.Rows.All
import Wide.All
import OpenK.AllK
import Wide.FinOn
import HandS.ForMost
import HandS.Exc
import HandS.ExcOwn
import HandS.TryOnly
import HandS.CallSlots
import HandS.Wide
import HandS.WideBits
import HandS.TupAny
import HandS.TupMul
import HandS.Style
import HandS.Codes
import HandS.More
import HandS.SetFor
import HandS.IsInst
import HandS.Zip
import HandS.Flow
import HandS.Iter
import HandS.Comp
import HandS.Small
import HandS.WordsExc
import HandS.EndBits
import PySem.Challenge.RW_levelcord_k06_whole_numbers_agree
set_option Elab.async false
set_option linter.all false
set_option maxRecDepth 100000
set_option Elab.async false
set_option linter.all false
set_option maxRecDepth 100000
/-! MP: a small language over tree values and a small store; its predicate transformer. -/
namespace MP
open PySem L2

/-- pure data -/
inductive T where
  | non | bl (b : Bool) | int (i : Int) | str (x : Str)
  | tup (l : List T) | lst (l : List T) | dct (l : List (Key × T)) | scr (l : List Int)
  | fn (f : Nat) | exc (c : Nat) (a : List T)
/-- a value: data, or the n-th object of the store -/
inductive D where
  | t (x : T) | r (n : Nat)
/-- an object of the store -/
inductive Ob where
  | lst (l : List T) | lsD (l : List D) | dct (l : List (Key × T)) | ins (c : Nat) (fs : List (Option D))
abbrev Sto := List Ob
abbrev Sg := List (Option D)
abbrev Post := D → Sto → Prop
abbrev XPost := Nat → List T → Sto → Prop
abbrev CF := Nat → List D → Sto → Post → XPost → Prop
structure Kn where
  nx : Sg → Sto → Prop
  rt : Post
  bk : Sg → Sto → Prop
  ct : Sg → Sto → Prop

/-- a wall for the evaluation -/
structure Bx (p : Prop) : Prop where
  un : p
def br (b : Bool) (p q : Prop) : Prop := match b with
  | true => p
  | false => q
theorem br_of {b : Bool} {p q : Prop} (h1 : b = true → p) (h2 : b = false → q) : br b p q := by
  cases b
  · exact h2 rfl
  · exact h1 rfl
theorem br_mono {b : Bool} {p q p' q' : Prop} (h : br b p q) (h1 : p → p') (h2 : q → q') : br b p' q' := by
  cases b
  · exact h2 h
  · exact h1 h
def nth {α : Type} : List α → Nat → Option α
  | [], _ => none
  | x :: _, 0 => some x
  | _ :: r, n + 1 => nth r n
theorem nth_eq {α : Type} : ∀ (l : List α) (n : Nat), nth l n = l[n]?
  | [], _ => rfl
  | _ :: _, 0 => rfl
  | _ :: r, n + 1 => by rw [nth, nth_eq r n]; simp

inductive BO where
  | add | sub | mul | fdiv | mod | pow | shl | shr | band
  deriving DecidableEq
inductive CO where
  | eq | ne | lt | le | gt | ge | is | isn | mem | nmem
  deriving DecidableEq
inductive Bi where
  | len | abs | min2 | max2 | min1 | max1 | sum | all | any | sorted | divmod | list | tuple | int | str | dict
  deriving DecidableEq
inductive Me where
  | append | extend | insert | pop | popAt | remove | index | count | partition | isdigit | get
  deriving DecidableEq
inductive Ty where
  | int | bool | tuple | str | valErr | cls (c : Nat)
  deriving DecidableEq

mutual
inductive Ex where
  | var (i : Nat) | glob (x : Nat)
  | int (i : Int) | str (s : Str) | non | bl (b : Bool)
  | bin (m : Bool) (o : BO) (a b : Ex) | neg (a : Ex) | not (a : Ex)
  | bool (isOr : Bool) (es : Exs)
  | cmp (a : Ex) (cs : Cms)
  | tup (es : Exs) | lst (m : Bool) (es : Exs) | dct (m : Bool) (ks : List Str) (es : Exs)
  | ix (a b : Ex) | sl (m : Bool) (a : Ex) (lo hi : Exo) | rev (a : Ex)
  | call (f : Nat) (es : Exs) | calv (i : Nat) (es : Exs)
  | bi (m : Bool) (b : Bi) (es : Exs) | listI (m : Bool) (it : It)
  | met (b : Me) (o : Ex) (es : Exs)
  | um (c f : Nat) (o : Ex) (es : Exs) | mk (c f nf : Nat) (es : Exs)
  | fld (c f : Nat) (o : Ex)
  | isi (a : Ex) (t : List Ty)
  | comp (m : Bool) (vs : List Nat) (tg : Tg) (it : It) (c : Exo) (e : Ex)
inductive Exs where
  | nil | cons (e : Ex) (r : Exs)
inductive Exo where
  | no | so (e : Ex)
inductive Cms where
  | one (o : CO) (e : Ex) | cons (o : CO) (e : Ex) (r : Cms)
inductive It where
  | ex (e : Ex) | range (es : Exs) | zip (a b : Ex) | enum (a : Ex)
inductive Tg where
  | var (i : Nat) | tup (ts : Tgs) | ix (o i : Ex) | fld (c f : Nat) (o : Ex)
inductive Tgs where
  | nil | cons (t : Tg) (r : Tgs)
end
mutual
inductive Sm where
  | asg (t : Tg) (e : Ex) | par (is : List Nat) (es : Exs) | expr (e : Ex) | ret (e : Ex)
  | ite (c : Ex) (a b : Sms) | whl (c : Ex) (b : Sms) | for_ (t : Tg) (it : It) (b : Sms)
  | raise (c : Nat) (es : Exs) | pass | brk | cont | dead
  | tryE (e : Ex) (isRet : Bool) (c : Nat) (n : Option Nat) (h : Sms)
inductive Sms where
  | nil | cons (s : Sm) (r : Sms)
end

/-! ### helpers over data -/
def rdL : D → Sto → Option (List T)
  | .t (.lst l), _ => some l
  | .r n, S => match nth S n with
    | some (.lst l) => some l
    | _ => none
  | _, _ => none
/-- a value as pure data, read now -/
def rdT : D → Sto → Option T
  | .t x, _ => some x
  | .r n, S => match nth S n with
    | some (.lst l) => some (.lst l)
    | some (.dct l) => some (.dct l)
    | _ => none
def outL (m : Bool) (l : List T) (S : Sto) (Q : Post) : Prop := match m with
  | true => Q (.r S.length) (S ++ [.lst l])
  | false => Q (.t (.lst l)) S
def tru (d : D) (S : Sto) (k : Bool → Prop) : Prop := match rdT d S with
  | some .non => k false
  | some (.bl b) => k b
  | some (.int i) => k (i != 0)
  | some (.str x) => x.length ≤ 16777216 ∧ k (x.length != 0)
  | some (.tup l) => k (!l.isEmpty)
  | some (.lst l) => k (!l.isEmpty)
  | _ => False

mutual
def T.eqb : T → T → Bool
  | .non, .non => true
  | .bl a, .bl b => a == b
  | .bl a, .int j => (if a then 1 else 0) == j
  | .int i, .bl b => i == (if b then 1 else 0)
  | .int i, .int j => i == j
  | .str x, .str y => x == y
  | .lst xs, .lst ys => T.eqbs xs ys
  | .tup xs, .tup ys => T.eqbs xs ys
  | _, _ => false
def T.eqbs : List T → List T → Bool
  | [], [] => true
  | x :: xs, y :: ys => T.eqb x y && T.eqbs xs ys
  | _, _ => false
end
def strOk (x : Str) : Bool := PyData.canLay0 (.str x)
mutual
/-- data that == reads, at most n deep -/
def T.okd : Nat → T → Bool
  | _, .non => true
  | _, .bl _ => true
  | _, .int _ => true
  | _, .str x => strOk x
  | n + 1, .lst l => T.okds n l
  | n + 1, .tup l => T.okds n l
  | _, _ => false
def T.okds : Nat → List T → Bool
  | _, [] => true
  | n, x :: r => T.okd n x && T.okds n r
end

abbrev szM (i : Int) : Prop := Builtin.Int.intBits i ≤ 1048576
abbrev divOk (j : Int) : Prop := j ≠ 0 ∧ j.natAbs.log2 < 9000

end MP

set_option Elab.async false
set_option linter.all false
set_option maxRecDepth 100000
namespace MP
open PySem L2

/-! ### operators over data -/
def cutL {α : Type} (l : List α) (lo hi : Option Int) : List α := (l.drop (HT.sIx l.length 0 lo)).take (HT.sIx l.length l.length hi - HT.sIx l.length 0 lo)
def binT (m : Bool) (o : BO) (x y : T) (S : Sto) (Q : Post) : Prop := match o, x, y with
  | .add, .int i, .int j => Q (.t (.int (i + j))) S
  | .add, .str a, .str b => a.length + b.length ≤ 16777216 ∧ Q (.t (.str (a ++ b))) S
  | .add, .tup a, .tup b => a.length + b.length ≤ 16777216 ∧ Q (.t (.tup (a ++ b))) S
  | .add, .lst a, .lst b => a.length + b.length ≤ 16777216 ∧ outL m (a ++ b) S Q
  | .sub, .int i, .int j => Q (.t (.int (i - j))) S
  | .mul, .int i, .int j => (szM i ∧ szM j) ∧ Q (.t (.int (i * j))) S
  | .mul, .tup a, .int k => (a ≠ [] ∧ 2 ≤ k ∧ k ≤ 1000 ∧ a.length ≤ 1000) ∧ Q (.t (.tup (List.replicate k.toNat a).flatten)) S
  | .mul, .lst a, .int k => (0 ≤ k ∧ k ≤ 1000 ∧ a.length ≤ 1000) ∧ outL m (List.replicate k.toNat a).flatten S Q
  | .fdiv, .int i, .int j => divOk j ∧ Q (.t (.int (i.fdiv j))) S
  | .mod, .int i, .int j => j ≠ 0 ∧ Q (.t (.int (i.fmod j))) S
  | .pow, .int i, .int j => (0 ≤ j ∧ j ≤ 1000000 ∧ i.natAbs < 18446744073709551616) ∧ Q (.t (.int (i ^ j.toNat))) S
  | .shl, .int i, .int j => (0 ≤ j ∧ j ≤ 1000000 ∧ i.natAbs < 18446744073709551616) ∧ Q (.t (.int (i * 2 ^ j.toNat))) S
  | .shr, .int i, .int j => 0 ≤ j ∧ Q (.t (.int (i / 2 ^ j.toNat))) S
  | .band, .int i, .int j => Q (.t (.int (Builtin.bitAnd i j))) S
  | _, _, _ => False
def binD (m : Bool) (o : BO) (x y : D) (S : Sto) (Q : Post) : Prop := match rdT x S, rdT y S with
  | some a, some b => binT m o a b S Q
  | _, _ => False
def negD (x : D) (S : Sto) (Q : Post) : Prop := match x with
  | .t (.int i) => Q (.t (.int (-i))) S
  | _ => False

def flatT : T → Bool
  | .non => true
  | .bl _ => true
  | .int _ => true
  | .str _ => true
  | _ => false
def keyT : T → Option Key
  | .int i => some (.inl i)
  | .str x => some (.inr x)
  | _ => none
def kget (kvs : List (Key × T)) (k : Key) : Option T := (kvs.find? fun kv => decide (kv.1 = k)).map (·.2)
def kput (kvs : List (Key × T)) (k : Key) (v : T) : List (Key × T) :=
  if kvs.any (fun kv => decide (kv.1 = k)) then kvs.map (fun kv => if kv.1 = k then (kv.1, v) else kv) else kvs ++ [(k, v)]
def isN : T → Bool
  | .non => true
  | _ => false
def cmpT (o : CO) (x y : T) (k : Bool → Prop) : Prop := match o with
  | .eq => T.okd 60 x = true ∧ T.okd 60 y = true ∧ k (T.eqb x y)
  | .ne => T.okd 60 x = true ∧ T.okd 60 y = true ∧ k (!T.eqb x y)
  | .lt => match x, y with
    | .int i, .int j => k (decide (i < j))
    | _, _ => False
  | .le => match x, y with
    | .int i, .int j => k (decide (i ≤ j))
    | _, _ => False
  | .gt => match x, y with
    | .int i, .int j => k (decide (j < i))
    | _, _ => False
  | .ge => match x, y with
    | .int i, .int j => k (decide (j ≤ i))
    | _, _ => False
  | .is => match x, y with
    | .bl a, .bl b => k (a == b)
    | _, .non => k (isN x)
    | _, _ => False
  | .isn => match x, y with
    | .bl a, .bl b => k (!(a == b))
    | _, .non => k (!(isN x))
    | _, _ => False
  | .mem => match x, y with
    | .str a, .str b => k (!(Builtin.Str.occurrences b a 0 b.length 1).isEmpty)
    | _, .tup l => (flatT x = true ∧ l.all flatT = true) ∧ k (l.any fun y => T.eqb y x)
    | _, .lst l => (flatT x = true ∧ l.all flatT = true) ∧ k (l.any fun y => T.eqb y x)
    | _, .dct l => match keyT x with
      | some kk => k (kget l kk).isSome
      | none => False
    | _, _ => False
  | .nmem => match x, y with
    | .str a, .str b => k (!(!(Builtin.Str.occurrences b a 0 b.length 1).isEmpty))
    | _, .tup l => (flatT x = true ∧ l.all flatT = true) ∧ k (!l.any fun y => T.eqb y x)
    | _, .lst l => (flatT x = true ∧ l.all flatT = true) ∧ k (!l.any fun y => T.eqb y x)
    | _, .dct l => match keyT x with
      | some kk => k (!(kget l kk).isSome)
      | none => False
    | _, _ => False
def cmpD (o : CO) (x y : D) (S : Sto) (Q : Post) : Prop := match rdT x S, rdT y S with
  | some a, some b => cmpT o a b fun c => Q (.t (.bl c)) S
  | _, _ => False

def ixD (o i : D) (S : Sto) (Q : Post) : Prop := match o, i with
  | .t (.tup l), .t (.int i) => match atI l i with
    | some v => Q (.t v) S
    | none => False
  | .t (.lst l), .t (.int i) => match atI l i with
    | some v => Q (.t v) S
    | none => False
  | .t (.str z), .t (.int i) => z.length ≤ 16777216 ∧ match atI z.cps.toList i with
    | some c => Q (.t (.str ⟨#[c]⟩)) S
    | none => False
  | .t (.dct l), .t x => match keyT x with
    | some k => match kget l k with
      | some v => Q (.t v) S
      | none => False
    | none => False
  | .r n, .t x => match nth S n with
    | some (.lst l) => match x with
      | .int i => match atI l i with
        | some v => Q (.t v) S
        | none => False
      | _ => False
    | some (.lsD l) => match x with
      | .int i => match atI l i with
        | some v => Q v S
        | none => False
      | _ => False
    | some (.dct l) => match keyT x with
      | some k => match kget l k with
        | some v => Q (.t v) S
        | none => False
      | none => False
    | _ => False
  | _, _ => False
def slD (m : Bool) (x : D) (lo hi : Option Int) (S : Sto) (Q : Post) : Prop := match rdT x S with
  | some (.tup l) => Q (.t (.tup (cutL l lo hi))) S
  | some (.lst l) => outL m (cutL l lo hi) S Q
  | some (.scr l) => outL m ((cutL l lo hi).map T.int) S Q
  | some (.str z) => z.length ≤ 16777216 ∧ Q (.t (.str (cutS z lo hi))) S
  | _ => False
def revD (x : D) (S : Sto) (Q : Post) : Prop := match rdT x S with
  | some (.tup l) => Q (.t (.tup l.reverse)) S
  | some (.lst l) => Q (.t (.lst l.reverse)) S
  | _ => False

def asInts : List T → Option (List Int)
  | [] => some []
  | .int i :: r => match asInts r with
    | some l => some (i :: l)
    | none => none
  | _ => none
def asBls : List T → Option (List Bool)
  | [] => some []
  | .bl i :: r => match asBls r with
    | some l => some (i :: l)
    | none => none
  | _ => none
def asKvs : List T → Option (List (Key × T))
  | [] => some []
  | .tup [k, v] :: r => match keyT k, asKvs r with
    | some k, some l => some ((k, v) :: l)
    | _, _ => none
  | _ => none
theorem asInts_map : ∀ ns : List Int, asInts (ns.map T.int) = some ns
  | [] => rfl
  | n :: r => by simp only [List.map_cons, asInts, asInts_map r]
theorem asBls_map : ∀ ns : List Bool, asBls (ns.map T.bl) = some ns
  | [] => rfl
  | n :: r => by simp only [List.map_cons, asBls, asBls_map r]
theorem asInts_eq : ∀ {l : List T} {ns : List Int}, asInts l = some ns → l = ns.map T.int
  | [], ns, h => by simp only [asInts, Option.some.injEq] at h; subst h; rfl
  | .int i :: r, ns, h => by
    simp only [asInts] at h
    split at h
    · rename_i l e
      simp only [Option.some.injEq] at h
      subst h
      rw [asInts_eq e]; rfl
    · cases h
  | .non :: _, _, h | .bl _ :: _, _, h | .str _ :: _, _, h | .tup _ :: _, _, h | .lst _ :: _, _, h | .dct _ :: _, _, h | .scr _ :: _, _, h | .fn _ :: _, _, h | .exc _ _ :: _, _, h => by simp [asInts] at h
theorem asBls_eq : ∀ {l : List T} {ns : List Bool}, asBls l = some ns → l = ns.map T.bl
  | [], ns, h => by simp only [asBls, Option.some.injEq] at h; subst h; rfl
  | .bl i :: r, ns, h => by
    simp only [asBls] at h
    split at h
    · rename_i l e
      simp only [Option.some.injEq] at h
      subst h
      rw [asBls_eq e]; rfl
    · cases h
  | .non :: _, _, h | .int _ :: _, _, h | .str _ :: _, _, h | .tup _ :: _, _, h | .lst _ :: _, _, h | .dct _ :: _, _, h | .scr _ :: _, _, h | .fn _ :: _, _, h | .exc _ _ :: _, _, h => by simp [asBls] at h

def biD (m : Bool) (b : Bi) (ds : List D) (S : Sto) (Q : Post) : Prop := match b, ds with
  | .len, [x] => match rdT x S with
    | some (.tup l) => Q (.t (.int l.length)) S
    | some (.lst l) => Q (.t (.int l.length)) S
    | some (.scr l) => Q (.t (.int l.length)) S
    | some (.str z) => z.length ≤ 16777216 ∧ Q (.t (.int z.length)) S
    | _ => False
  | .abs, [.t (.int i)] => Q (.t (.int (i.natAbs : Int))) S
  | .min2, [.t (.int i), .t (.int j)] => Q (.t (.int (if j < i then j else i))) S
  | .max2, [.t (.int i), .t (.int j)] => Q (.t (.int (if j > i then j else i))) S
  | .sum, [x] => match rdL x S with
    | some l => match asInts l with
      | some ns => Q (.t (.int ns.sum)) S
      | none => False
    | none => False
  | .all, [x] => match rdL x S with
    | some l => match asBls l with
      | some ns => Q (.t (.bl (ns.all id))) S
      | none => False
    | none => False
  | .any, [x] => match rdL x S with
    | some l => match asBls l with
      | some ns => Q (.t (.bl (ns.any id))) S
      | none => False
    | none => False
  | .sorted, [x] => match rdL x S with
    | some l => match asInts l with
      | some ns => ns.length < 64 ∧ ∀ ns' : List Int, ns'.Perm ns → ns'.Pairwise (· ≤ ·) → outL m (ns'.map T.int) S Q
      | none => False
    | none => False
  | .divmod, [.t (.int i), .t (.int j)] => (0 < j ∧ j.natAbs.log2 < 9000) ∧ Q (.t (.tup [.int (i / j), .int (i % j)])) S
  | .list, [x] => match rdT x S with
    | some (.tup l) => outL m l S Q
    | some (.lst l) => outL m l S Q
    | _ => False
  | .tuple, [x] => match rdT x S with
    | some (.tup l) => Q (.t (.tup l)) S
    | some (.lst l) => Q (.t (.tup l)) S
    | _ => False
  | .int, [.t x] => match x with
    | .int i => Q (.t (.int i)) S
    | .bl b => Q (.t (.int (if b then 1 else 0))) S
    | .str z => z.length ≤ 640 ∧ match intText? z with
      | some n => Q (.t (.int n)) S
      | none => False
    | _ => False
  | .str, [.t (.int i)] => i.natAbs.log2 < 1920 ∧ Q (.t (.str (Str.ofString (toString i)))) S
  | _, _ => False

def meD (b : Me) (o : D) (ds : List D) (S : Sto) (Q : Post) : Prop := match b, o, ds with
  | .append, .r n, [y] => match nth S n with
    | some (.lst l) => match y with
      | .t y => l.length < 16777216 ∧ Q (.t .non) (S.set n (.lst (l ++ [y])))
      | _ => False
    | some (.lsD l) => l.length < 16777216 ∧ Q (.t .non) (S.set n (.lsD (l ++ [y])))
    | _ => False
  | .extend, .r n, [z] => match nth S n, rdL z S with
    | some (.lst l), some k => l.length + k.length ≤ 16777216 ∧ Q (.t .non) (S.set n (.lst (l ++ k)))
    | _, _ => False
  | .insert, .r n, [.t (.int i), .t y] => match nth S n with
    | some (.lst l) => (0 ≤ i ∧ i < 16777216 ∧ l.length < 16777216) ∧ Q (.t .non) (S.set n (.lst (l.take i.toNat ++ [y] ++ l.drop i.toNat)))
    | _ => False
  | .pop, .r n, [] => match nth S n with
    | some (.lst l) => match l.getLast? with
      | some y => Q (.t y) (S.set n (.lst l.dropLast))
      | none => False
    | _ => False
  | .popAt, .r n, [.t (.int i)] => match nth S n with
    | some (.lst l) => match ixN l.length i with
      | some k => match l[k]? with
        | some y => Q (.t y) (S.set n (.lst (l.eraseIdx k)))
        | none => False
      | none => False
    | _ => False
  | .partition, .t (.str a), [.t (.str b)] => ((b.length == 0) = false ∧ a.length ≤ 16777216) ∧ Q (.t (.tup [.str (Txt.partition a b).1, .str (Txt.partition a b).2.1, .str (Txt.partition a b).2.2])) S
  | .isdigit, .t (.str a), [] => Q (.t (.bl (Txt.isdigit a))) S
  | .count, o, [.t (.bl k)] => match rdL o S with
    | some l => match asBls l with
      | some bs => Q (.t (.int (bs.count k : Nat))) S
      | none => False
    | none => False
  | .get, o, [.t x, d] => match rdT o S, keyT x with
    | some (.dct l), some k => match kget l k with
      | some v => Q (.t v) S
      | none => Q d S
    | _, _ => False
  | _, _, _ => False

end MP

set_option Elab.async false
set_option linter.all false
set_option maxRecDepth 100000
namespace MP
open PySem L2

/-! ### loops -/
def grd (g : Option (Nat × List T)) (S : Sto) (p : Prop) : Prop := match g with
  | none => p
  | some (n, l) => nth S n = some (.lst l) ∧ p
def forL (g : Option (Nat × List T)) (step : D → Sg → Sto → Kn → Prop) : List T → Sg → Sto → Kn → Prop
  | [], σ, S, K => grd g S (K.nx σ S)
  | x :: xs, σ, S, K => grd g S (step (.t x) σ S ⟨fun σ' S' => forL g step xs σ' S' K, K.rt, K.nx, fun σ' S' => forL g step xs σ' S' K⟩)
def compL (g : Option (Nat × List T)) (step : D → Sto → (Option T → Sto → Prop) → Prop) : List T → List T → Sto → (List T → Sto → Prop) → Prop
  | [], acc, S, Q => grd g S (Q acc S)
  | x :: xs, acc, S, Q => grd g S (step (.t x) S fun o S' => match o with
    | some y => compL g step xs (acc ++ [y]) S' Q
    | none => compL g step xs acc S' Q)
def wipeS (σ : Sg) : List Nat → Sg
  | [] => σ
  | v :: vs => (wipeS σ vs).set v none

/-! ### sub-stores for calls -/
def hasN : List Nat → Nat → Bool
  | [], _ => false
  | x :: r, n => if x = n then true else hasN r n
def addR (l : List Nat) (n : Nat) : List Nat := match hasN l n with
  | true => l
  | false => l ++ [n]
def refsD : List D → List Nat → List Nat
  | [], acc => acc
  | .r n :: r, acc => refsD r (addR acc n)
  | .t _ :: r, acc => refsD r acc
def refsF : List (Option D) → List Nat → List Nat
  | [], acc => acc
  | some (.r n) :: r, acc => refsF r (addR acc n)
  | _ :: r, acc => refsF r acc
def refsO : Ob → List Nat → List Nat
  | .ins _ fs, acc => refsF fs acc
  | .lsD l, acc => refsD l acc
  | _, acc => acc
def reachL (S : Sto) : List Nat → List Nat → List Nat
  | [], acc => acc
  | n :: r, acc => match nth S n with
    | some o => reachL S r (refsO o acc)
    | none => reachL S r acc
def reach (S : Sto) (ds : List D) : List Nat := reachL S (refsD ds []) (refsD ds [])
def posN : List Nat → Nat → Nat
  | [], _ => 0
  | x :: r, n => if x = n then 0 else posN r n + 1
def renD (rs : List Nat) : D → D
  | .t x => .t x
  | .r n => .r (posN rs n)
def renF (rs : List Nat) : List (Option D) → List (Option D)
  | [] => []
  | some d :: r => some (renD rs d) :: renF rs r
  | none :: r => none :: renF rs r
def renL (rs : List Nat) : List D → List D
  | [] => []
  | d :: r => renD rs d :: renL rs r
def renO (rs : List Nat) : Ob → Ob
  | .ins c fs => .ins c (renF rs fs)
  | .lsD l => .lsD (renL rs l)
  | .lst l => .lst l
  | .dct l => .dct l
def subS (rs : List Nat) (S : Sto) : List Nat → Sto
  | [] => []
  | n :: r => match nth S n with
    | some o => renO rs o :: subS rs S r
    | none => []
def bakD (rs : List Nat) (k : Nat) : D → D
  | .t x => .t x
  | .r j => match nth rs j with
    | some n => .r n
    | none => .r (k + (j - rs.length))
def bakF (rs : List Nat) (k : Nat) : List (Option D) → List (Option D)
  | [] => []
  | some d :: r => some (bakD rs k d) :: bakF rs k r
  | none :: r => none :: bakF rs k r
def bakL (rs : List Nat) (k : Nat) : List D → List D
  | [] => []
  | d :: r => bakD rs k d :: bakL rs k r
def bakO (rs : List Nat) (k : Nat) : Ob → Ob
  | .ins c fs => .ins c (bakF rs k fs)
  | .lsD l => .lsD (bakL rs k l)
  | .lst l => .lst l
  | .dct l => .dct l
def bakOs (rs : List Nat) (k : Nat) : Sto → Sto
  | [] => []
  | o :: r => bakO rs k o :: bakOs rs k r
/-- the old ones changed, the new ones behind -/
def bakS (rs : List Nat) (k : Nat) : List Nat → Sto → Sto → Sto
  | n :: ns, S, o :: os => bakS rs k ns (S.set n (bakO rs k o)) os
  | _, S, [] => S
  | [], S, os => S ++ bakOs rs k os
def refsInF (k : List Nat) : List (Option D) → Bool
  | [] => true
  | some (.r n) :: r => hasN k n && refsInF k r
  | _ :: r => refsInF k r
def refsInD (k : List Nat) : List D → Bool
  | [] => true
  | .r n :: r => hasN k n && refsInD k r
  | _ :: r => refsInD k r
def refsInO (k : List Nat) : Ob → Bool
  | .ins _ fs => refsInF k fs
  | .lsD l => refsInD k l
  | _ => true
/-- every place of rs stands in the store, and what stands there leads to places of rs alone -/
def subOk (rs : List Nat) (S : Sto) : List Nat → Bool
  | [] => true
  | n :: r => match nth S n with
    | some o => refsInO rs o && subOk rs S r
    | none => false
def shD (k : Nat) : D → D
  | .t x => .t x
  | .r j => .r (k + j)
def apS (S : Sto) : Sto → Sto
  | [] => S
  | o :: os => S ++ bakOs [] S.length (o :: os)
def nodN : List Nat → Bool
  | [] => true
  | n :: r => !hasN r n && nodN r
def rOk (R : List Nat) (ds : List D) (S : Sto) : Bool := nodN R && refsInD R ds && subOk R S R
def callS (cf : CF) (f : Nat) (ds : List D) (S : Sto) (Q : Post) (E : XPost) : Prop := match refsD ds [] with
  | [] => cf f ds [] (fun v S' => Q (shD S.length v) (apS S S')) (fun c a S' => E c a (apS S S'))
  | r :: rs => br (rOk (reachL S (r :: rs) (r :: rs)) ds S)
    (cf f (renL (reachL S (r :: rs) (r :: rs)) ds) (subS (reachL S (r :: rs) (r :: rs)) S (reachL S (r :: rs) (r :: rs)))
      (fun v S' => Q (bakD (reachL S (r :: rs) (r :: rs)) S.length v) (bakS (reachL S (r :: rs) (r :: rs)) S.length (reachL S (r :: rs) (r :: rs)) S S'))
      (fun c a S' => E c a (bakS (reachL S (r :: rs) (r :: rs)) S.length (reachL S (r :: rs) (r :: rs)) S S'))) False

def belF (k : Nat) : List (Option D) → Bool
  | [] => true
  | some (.r n) :: r => decide (n < k) && belF k r
  | _ :: r => belF k r
def belD (k : Nat) : List D → Bool
  | [] => true
  | .r n :: r => decide (n < k) && belD k r
  | _ :: r => belD k r
def belO (k : Nat) : Ob → Bool
  | .ins _ fs => belF k fs
  | .lsD l => belD k l
  | _ => true
/-- the first n objects lead to places below k alone -/
def belS (k : Nat) : Nat → Sto → Bool
  | 0, _ => true
  | _, [] => true
  | n + 1, o :: r => belO k o && belS k n r
def frzD (S : Sto) : List D → Option (List T)
  | [] => some []
  | d :: r => match rdT d S, frzD S r with
    | some x, some l => some (x :: l)
    | _, _ => none
/-- what is new, read as data -/
def frzK (k : Nat) (S : Sto) : List D → Option (List T)
  | [] => some []
  | .t x :: r => match frzK k S r with
    | some l => some (x :: l)
    | none => none
  | .r n :: r => if n < k then none else match nth S n, frzK k S r with
    | some (.lst x), some l => some (.lst x :: l)
    | some (.dct x), some l => some (.dct x :: l)
    | _, _ => none
/-- a function's way out: the store behind its first k objects is forgotten; a new list is handed out as data -/
def exitQ (k : Nat) (Q : Post) (v : D) (S : Sto) : Prop := br (belS k k S) (match v with
    | .t x => Q (.t x) (S.take k)
    | .r j => br (decide (j < k)) (Q (.r j) (S.take k)) (match nth S j with
      | some (.lst l) => Q (.t (.lst l)) (S.take k)
      | some (.lsD l) => match frzK k S l with
        | some l' => Q (.t (.lst l')) (S.take k)
        | none => False
      | _ => False)) False
/-- .. handed out as an object -/
def exitM (k : Nat) (Q : Post) (v : D) (S : Sto) : Prop := br (belS k k S) (match v with
    | .t x => Q (.t x) (S.take k)
    | .r j => br (decide (j < k)) (Q (.r j) (S.take k)) (match nth S j with
      | some (.lst l) => Q (.r k) (S.take k ++ [.lst l])
      | _ => False)) False
def exitX (k : Nat) (E : XPost) : XPost := fun c a S => br (belS k k S) (E c a (S.take k)) False
def FX : XPost := fun _ _ _ => False

def rngL (lo : Int) (n : Nat) : List T := (List.range n).map fun (i : Nat) => T.int (lo + (i : Int))
def rngC (lo c : Int) (n : Nat) : List T := (List.range n).map fun (i : Nat) => T.int (lo + (i : Int) * c)
def zipT : List T → List T → List T
  | x :: xs, y :: ys => .tup [x, y] :: zipT xs ys
  | _, _ => []
def enumT : Nat → List T → List T
  | _, [] => []
  | n, x :: xs => .tup [.int n, x] :: enumT (n + 1) xs
def okR (i : Int) : Prop := -4611686018427387904 ≤ i ∧ i < 4611686018427387904
def rngD (ds : List D) (S : Sto) (k : List T → Prop) : Prop := match ds with
  | [.t (.int j)] => okR j ∧ k (rngL 0 j.toNat)
  | [.t (.int i), .t (.int j)] => (okR i ∧ okR j) ∧ k (rngL i (j - i).toNat)
  | [.t (.int i), .t (.int j), .t (.int c)] => (0 ≤ i ∧ okR i ∧ okR j ∧ 0 < c ∧ c < 1073741824) ∧ k (rngC i c ((j - i + c - 1) / c).toNat)
  | _ => False
def seqD (d : D) (S : Sto) (k : List T → Option (Nat × List T) → Prop) : Prop := match d with
  | .t (.tup l) => k l none
  | .t (.lst l) => k l none
  | .t (.str z) => k (z.cps.toList.map fun c => T.str ⟨#[c]⟩) none
  | .r n => match nth S n with
    | some (.lst l) => k l (some (n, l))
    | _ => False
  | _ => False
def enuD (d : D) (k : List T → Prop) : Prop := match d with
  | .t (.lst l) => k l
  | _ => False
/-- both lists, or both tuples -/
def zipD (a b : D) (S : Sto) (k : List T → Prop) : Prop := match a, b with
  | .t (.tup l), .t (.tup l') => k (zipT l l')
  | .t (.lst l), .t (.lst l') => k (zipT l l')
  | _, _ => False
def unpD (d : D) (k : List T → Prop) : Prop := match d with
  | .t (.tup l) => k l
  | _ => False
def setD (o i d : D) (S : Sto) (k : Sto → Prop) : Prop := match o, i, d with
  | .r n, .t x, .t y => match nth S n with
    | some (.lst l) => match x with
      | .int i => match ixN l.length i with
        | some j => k (S.set n (.lst (l.set j y)))
        | none => False
      | _ => False
    | some (.dct l) => match keyT x with
      | some kk => l.length < 16777216 ∧ k (S.set n (.dct (kput l kk y)))
      | none => False
    | _ => False
  | _, _, _ => False
def getF (c f : Nat) (o : D) (S : Sto) (Q : Post) : Prop := match o with
  | .r n => match nth S n with
    | some (.ins c' fs) => br (decide (c' = c)) (match nth fs f with
      | some (some d) => Q d S
      | _ => False) False
    | _ => False
  | _ => False
/-- the fields ahead of the f-th are there -/
def ordF : List (Option D) → Nat → Bool
  | _ :: _, 0 => true
  | some _ :: r, f + 1 => ordF r f
  | _, _ => false
/-- .. and those behind it aren't, where it isn't -/
def tailF : List (Option D) → Nat → Bool
  | some _ :: _, 0 => true
  | none :: r, 0 => allN r
  | _ :: r, f + 1 => tailF r f
  | _, _ => false
where allN : List (Option D) → Bool
  | [] => true
  | none :: r => allN r
  | some _ :: _ => false
def setF (c f : Nat) (o : D) (d : D) (S : Sto) (k : Sto → Prop) : Prop := match o with
  | .r n => match nth S n with
    | some (.ins c' fs) => br (decide (c' = c)) (br (ordF fs f) (br (tailF fs f) (br (decide (fs.length ≤ 100)) (k (S.set n (.ins c (fs.set f (some d))))) False) False) False) False
    | _ => False
  | _ => False
/-- isinstance(x, t); an exception: by its class's own list of those above it, itself first -/
def isiT (ups : Nat → List Ty) (x : T) (t : Ty) : Bool := match x, t with
  | .int _, .int => true
  | .bl _, .int => true
  | .bl _, .bool => true
  | .tup _, .tuple => true
  | .str _, .str => true
  | .exc c _, t => (ups c).contains t
  | _, _ => false
def tyOk : T → Bool
  | .fn _ => false
  | _ => true
/-- of which built-in type a method's object must be -/
def tyM (b : Me) (x : D) (S : Sto) : Bool := match b with
  | .partition => match x with
    | .t (.str _) => true
    | _ => false
  | .isdigit => match x with
    | .t (.str _) => true
    | _ => false
  | .get => match rdT x S with
    | some (.dct _) => true
    | _ => false
  | _ => match x with
    | .t (.lst _) => true
    | .r n => match nth S n with
      | some (.lst _) => true
      | some (.lsD _) => true
      | _ => false
    | _ => false

def tgsLen : Tgs → Nat
  | .nil => 0
  | .cons _ r => tgsLen r + 1

mutual
def wpE (cf : CF) (ge : Nat → T) (up : Nat → List Ty) : Ex → XPost → Sg → Sto → Post → Prop
  | .var i, _, σ, S, Q => match nth σ i with
    | some (some d) => Q d S
    | _ => False
  | .glob x, _, _, S, Q => Q (.t (ge x)) S
  | .int i, _, _, S, Q => Q (.t (.int i)) S
  | .str x, _, _, S, Q => Q (.t (.str x)) S
  | .non, _, _, S, Q => Q (.t .non) S
  | .bl b, _, _, S, Q => Q (.t (.bl b)) S
  | .bin m o a b, E, σ, S, Q => wpE cf ge up a E σ S fun x S1 => wpE cf ge up b E σ S1 fun y S2 => binD m o x y S2 Q
  | .neg a, E, σ, S, Q => wpE cf ge up a E σ S fun x S1 => negD x S1 Q
  | .not a, E, σ, S, Q => wpE cf ge up a E σ S fun x S1 => tru x S1 fun b => Q (.t (.bl (!b))) S1
  | .bool o es, E, σ, S, Q => wpB cf ge up o es E σ S Q
  | .cmp a cs, E, σ, S, Q => wpE cf ge up a E σ S fun x S1 => wpC cf ge up x cs E σ S1 Q
  | .tup es, E, σ, S, Q => wpL cf ge up es E σ S fun ds S1 => match frzD [] ds with
    | some l => Q (.t (.tup l)) S1
    | none => False
  | .lst m es, E, σ, S, Q => wpL cf ge up es E σ S fun ds S1 => match frzD [] ds with
    | some l => outL m l S1 Q
    | none => match m with
      | true => Q (.r S1.length) (S1 ++ [.lsD ds])
      | false => False
  | .dct m ks es, E, σ, S, Q => wpL cf ge up es E σ S fun ds S1 => match frzD [] ds with
    | some l => match m with
      | true => Q (.r S1.length) (S1 ++ [.dct ((ks.zip l).foldl (fun acc kv => kput acc (.inr kv.1) kv.2) [])])
      | false => Q (.t (.dct ((ks.zip l).foldl (fun acc kv => kput acc (.inr kv.1) kv.2) []))) S1
    | none => False
  | .ix a b, E, σ, S, Q => wpE cf ge up a E σ S fun x S1 => wpE cf ge up b E σ S1 fun y S2 => ixD x y S2 Q
  | .sl m a lo hi, E, σ, S, Q => wpE cf ge up a E σ S fun x S1 => wpO cf ge up lo E σ S1 fun l S2 => wpO cf ge up hi E σ S2 fun u S3 => slD m x l u S3 Q
  | .rev a, E, σ, S, Q => wpE cf ge up a E σ S fun x S1 => revD x S1 Q
  | .call f es, E, σ, S, Q => wpL cf ge up es E σ S fun ds S1 => Bx (callS cf f ds S1 Q E)
  | .calv i es, E, σ, S, Q => match nth σ i with
    | some (some (.t (.fn f))) => wpL cf ge up es E σ S fun ds S1 => Bx (callS cf f ds S1 Q E)
    | _ => False
  | .bi m b es, E, σ, S, Q => wpL cf ge up es E σ S fun ds S1 => biD m b ds S1 Q
  | .listI m it, E, σ, S, Q => wpI cf ge up it E σ S fun l _ S1 => l.length ≤ 16777216 ∧ outL m l S1 Q
  | .met b o es, E, σ, S, Q => wpE cf ge up o E σ S fun x S1 => br (tyM b x S1) (wpL cf ge up es E σ S1 fun ds S2 => Bx (meD b x ds S2 Q)) False
  | .um c f o es, E, σ, S, Q => wpE cf ge up o E σ S fun x S1 => match x with
    | .r n => match nth S1 n with
      | some (.ins c' _) => br (decide (c' = c)) (wpL cf ge up es E σ S1 fun ds S2 => Bx (callS cf f (.r n :: ds) S2 Q E)) False
      | _ => False
    | _ => False
  | .mk c f nf es, E, σ, S, Q => wpL cf ge up es E σ S fun ds S1 => match frzD [] ds with
    | some l => cf f (.r 0 :: ds) [.ins c (List.replicate nf none)] (fun d S' => match d with
      | .t .non => Q (.r S1.length) (S1 ++ bakOs [] S1.length S')
      | _ => False) (fun c a _ => E c a S1)
    | none => False
  | .fld c f o, E, σ, S, Q => wpE cf ge up o E σ S fun x S1 => getF c f x S1 Q
  | .isi a t, E, σ, S, Q => wpE cf ge up a E σ S fun x S1 => match rdT x S1 with
    | some y => br (tyOk y) (Q (.t (.bl (t.any (isiT up y)))) S1) False
    | none => False
  | .comp m vs tg it c e, E, σ, S, Q => wpI cf ge up it E σ S fun l g S1 => l.length ≤ 16777216 ∧
      compL g (fun x S2 k => wpG cf ge up tg FX x (wipeS σ vs) S2 fun σ3 S3 => wpT cf ge up c FX σ3 S3 fun b S4 =>
        br b (wpE cf ge up e FX σ3 S4 fun d S5 => match d with
          | .t y => k (some y) S5
          | _ => False) (k none S4)) l [] S1 fun l' S' => outL m l' S' Q
def wpL (cf : CF) (ge : Nat → T) (up : Nat → List Ty) : Exs → XPost → Sg → Sto → (List D → Sto → Prop) → Prop
  | .nil, _, _, S, Q => Q [] S
  | .cons e r, E, σ, S, Q => wpE cf ge up e E σ S fun d S1 => wpL cf ge up r E σ S1 fun ds S2 => Q (d :: ds) S2
/-- and, or of two and more -/
def wpB (cf : CF) (ge : Nat → T) (up : Nat → List Ty) : Bool → Exs → XPost → Sg → Sto → Post → Prop
  | _, .nil, _, _, _, _ => False
  | o, .cons e r, E, σ, S, Q => match r with
    | .nil => wpE cf ge up e E σ S Q
    | .cons e' r' => wpE cf ge up e E σ S fun d S1 => tru d S1 fun b => match o with
      | true => br b (Q d S1) (wpB cf ge up o (.cons e' r') E σ S1 Q)
      | false => br b (wpB cf ge up o (.cons e' r') E σ S1 Q) (Q d S1)
def wpC (cf : CF) (ge : Nat → T) (up : Nat → List Ty) : D → Cms → XPost → Sg → Sto → Post → Prop
  | x, .one o e, E, σ, S, Q => wpE cf ge up e E σ S fun y S1 => cmpD o x y S1 Q
  | x, .cons o e r, E, σ, S, Q => wpE cf ge up e E σ S fun y S1 => cmpD o x y S1 fun d S2 => match d with
    | .t (.bl b) => br b (wpC cf ge up y r E σ S2 Q) (Q (.t (.bl false)) S2)
    | _ => False
def wpO (cf : CF) (ge : Nat → T) (up : Nat → List Ty) : Exo → XPost → Sg → Sto → (Option Int → Sto → Prop) → Prop
  | .no, _, _, S, Q => Q none S
  | .so e, E, σ, S, Q => wpE cf ge up e E σ S fun d S1 => match d with
    | .t (.int i) => Q (some i) S1
    | _ => False
def wpT (cf : CF) (ge : Nat → T) (up : Nat → List Ty) : Exo → XPost → Sg → Sto → (Bool → Sto → Prop) → Prop
  | .no, _, _, S, Q => Q true S
  | .so e, E, σ, S, Q => wpE cf ge up e E σ S fun d S1 => tru d S1 fun b => Q b S1
def wpI (cf : CF) (ge : Nat → T) (up : Nat → List Ty) : It → XPost → Sg → Sto → (List T → Option (Nat × List T) → Sto → Prop) → Prop
  | .ex e, E, σ, S, Q => wpE cf ge up e E σ S fun d S1 => seqD d S1 fun l g => Q l g S1
  | .range es, E, σ, S, Q => wpL cf ge up es E σ S fun ds S1 => rngD ds S1 fun l => Q l none S1
  | .zip a b, E, σ, S, Q => wpE cf ge up a E σ S fun x S1 => wpE cf ge up b E σ S1 fun y S2 => zipD x y S2 fun l => Q l none S2
  | .enum a, E, σ, S, Q => wpE cf ge up a E σ S fun d S1 => enuD d fun l => Q (enumT 0 l) none S1
def wpG (cf : CF) (ge : Nat → T) (up : Nat → List Ty) : Tg → XPost → D → Sg → Sto → (Sg → Sto → Prop) → Prop
  | .var i, _, d, σ, S, Q => Q (σ.set i (some d)) S
  | .tup ts, E, d, σ, S, Q => unpD d fun l => br (decide (l.length = tgsLen ts)) (wpGs cf ge up ts E l σ S Q) False
  | .ix o i, E, d, σ, S, Q => wpE cf ge up o E σ S fun x S1 => wpE cf ge up i E σ S1 fun y S2 => Bx (setD x y d S2 fun S3 => Q σ S3)
  | .fld c f o, E, d, σ, S, Q => wpE cf ge up o E σ S fun x S1 => setF c f x d S1 fun S2 => Q σ S2
def wpGs (cf : CF) (ge : Nat → T) (up : Nat → List Ty) : Tgs → XPost → List T → Sg → Sto → (Sg → Sto → Prop) → Prop
  | .nil, _, [], σ, S, Q => Q σ S
  | .cons t r, E, x :: l, σ, S, Q => wpG cf ge up t E (.t x) σ S fun σ1 S1 => wpGs cf ge up r E l σ1 S1 Q
  | _, _, _, _, _, _ => False
end
def setMany : List Nat → List D → Sg → Sg
  | i :: is, d :: ds, σ => setMany is ds (σ.set i (some d))
  | _, _, σ => σ
mutual
def wpS (cf : CF) (ge : Nat → T) (up : Nat → List Ty) : Sm → XPost → Sg → Sto → Kn → Prop
  | .asg t e, E, σ, S, K => wpE cf ge up e E σ S fun d S1 => wpG cf ge up t E d σ S1 K.nx
  | .par is es, E, σ, S, K => wpL cf ge up es E σ S fun ds S1 => K.nx (setMany is ds σ) S1
  | .expr e, E, σ, S, K => wpE cf ge up e E σ S fun _ S1 => K.nx σ S1
  | .ret e, E, σ, S, K => wpE cf ge up e E σ S K.rt
  | .ite c a b, E, σ, S, K => wpE cf ge up c E σ S fun d S1 => tru d S1 fun v => br v (wpSs cf ge up a E σ S1 K) (wpSs cf ge up b E σ S1 K)
  | .whl c b, E, σ, S, K => ∃ W : Nat → Sg → Sto → Prop, (∃ m, W m σ S) ∧ ∀ m σ S, W m σ S →
      wpE cf ge up c E σ S fun d S1 => tru d S1 fun v => br v
        (wpSs cf ge up b E σ S1 ⟨fun σ' S' => ∃ m', m' < m ∧ W m' σ' S', K.rt, K.nx, fun σ' S' => ∃ m', m' < m ∧ W m' σ' S'⟩) (K.nx σ S1)
  | .for_ t it b, E, σ, S, K => wpI cf ge up it E σ S fun l g S1 =>
      Bx (forL g (fun d σ2 S2 K2 => wpG cf ge up t E d σ2 S2 fun σ3 S3 => wpSs cf ge up b E σ3 S3 K2) l σ S1 K)
  | .raise c es, E, σ, S, _ => wpL cf ge up es E σ S fun ds S1 => match frzD [] ds with
    | some l => E c l S1
    | none => False
  | .pass, _, σ, S, K => K.nx σ S
  | .brk, _, σ, S, K => K.bk σ S
  | .cont, _, σ, S, K => K.ct σ S
  | .dead, _, _, _, _ => False
  | .tryE e isRet c n h, E, σ, S, K => wpE cf ge up e (fun c' a S1 => br ((up c').contains (.cls c))
      (match n with
        | none => wpSs cf ge up h E σ S1 K
        | some i => wpSs cf ge up h E (σ.set i (some (.t (.exc c' a)))) S1 ⟨fun σ' => K.nx (σ'.set i none), K.rt, fun σ' => K.bk (σ'.set i none), fun σ' => K.ct (σ'.set i none)⟩)
      (E c' a S1)) σ S fun d S1 => match isRet with
        | true => K.rt d S1
        | false => K.nx σ S1
def wpSs (cf : CF) (ge : Nat → T) (up : Nat → List Ty) : Sms → XPost → Sg → Sto → Kn → Prop
  | .nil, _, σ, S, K => K.nx σ S
  | .cons s r, E, σ, S, K => wpS cf ge up s E σ S ⟨fun σ' S' => wpSs cf ge up r E σ' S' K, K.rt, K.bk, K.ct⟩
end

/-- a def: parameters, names, its way out (0: data, 1: a new list as an object, 2: an __init__), its body -/
structure Fn where
  np : Nat
  ns : Nat
  md : Nat
  body : Sms
def knF (md k : Nat) (Q : Post) : Kn := match md with
  | 0 => ⟨fun _ S' => exitQ k Q (.t .non) S', exitQ k Q, fun _ _ => False, fun _ _ => False⟩
  | 1 => ⟨fun _ S' => exitM k Q (.t .non) S', exitM k Q, fun _ _ => False, fun _ _ => False⟩
  | _ => ⟨fun _ S' => Q (.t .non) S', Q, fun _ _ => False, fun _ _ => False⟩
def wpF (cf : CF) (ge : Nat → T) (up : Nat → List Ty) (d : Fn) (ds : List D) (S : Sto) (Q : Post) (E : XPost) : Prop :=
  ds.length = d.np ∧ wpSs cf ge up d.body (exitX S.length E) (ds.map some ++ List.replicate (d.ns - d.np) none) S (knF d.md S.length Q)
def cfn (tab : Nat → Option Fn) (ge : Nat → T) (up : Nat → List Ty) : Nat → CF
  | 0 => fun _ _ _ _ _ => False
  | n + 1 => fun f ds S Q E => match tab f with
    | some d => wpF (cfn tab ge up n) ge up d ds S Q E
    | none => False
end MP

set_option Elab.async false
set_option linter.all false
set_option maxRecDepth 100000
namespace MP
open PySem L2
/-! ### the transformer is monotone -/
def Mono (cf : CF) : Prop := ∀ f ds S (Q Q' : Post) (E E' : XPost), (∀ d S, Q d S → Q' d S) → (∀ c a S, E c a S → E' c a S) → cf f ds S Q E → cf f ds S Q' E'
def Kle (K K' : Kn) : Prop := (∀ σ S, K.nx σ S → K'.nx σ S) ∧ (∀ d S, K.rt d S → K'.rt d S) ∧ (∀ σ S, K.bk σ S → K'.bk σ S) ∧ (∀ σ S, K.ct σ S → K'.ct σ S)
theorem outL_mono {m l S} {Q Q' : Post} (h : ∀ d S, Q d S → Q' d S) (q : outL m l S Q) : outL m l S Q' := by
  cases m <;> exact h _ _ q
theorem tru_mono {d S} {k k' : Bool → Prop} (h : ∀ b, k b → k' b) (q : tru d S k) : tru d S k' := by
  unfold tru at *
  split at q <;> first | exact h _ q | exact ⟨q.1, h _ q.2⟩ | exact q.elim
theorem grd_mono {g S} {p p' : Prop} (h : p → p') (q : grd g S p) : grd g S p' := by
  cases g with
  | none => exact h q
  | some x => exact ⟨q.1, h q.2⟩
theorem forL_mono {g step} (hs : ∀ d σ S K K', Kle K K' → step d σ S K → step d σ S K') : ∀ l σ S K K', Kle K K' → forL g step l σ S K → forL g step l σ S K'
  | [], σ, S, K, K', h, q => grd_mono (h.1 σ S) q
  | x :: xs, σ, S, K, K', h, q => grd_mono (fun q => by
      refine hs _ _ _ _ _ ?_ q
      exact ⟨fun σ S q => forL_mono hs xs σ S K K' h q, h.2.1, h.1, fun σ S q => forL_mono hs xs σ S K K' h q⟩) q
theorem forL_step {g} {step step' : D → Sg → Sto → Kn → Prop} (hs : ∀ d σ S K K', Kle K K' → step d σ S K → step' d σ S K') : ∀ l σ S K K', Kle K K' → forL g step l σ S K → forL g step' l σ S K'
  | [], σ, S, K, K', h, q => grd_mono (h.1 σ S) q
  | x :: xs, σ, S, K, K', h, q => grd_mono (fun q => by
      refine hs _ _ _ _ _ ?_ q
      exact ⟨fun σ S q => forL_step hs xs σ S K K' h q, h.2.1, h.1, fun σ S q => forL_step hs xs σ S K K' h q⟩) q
theorem compL_mono {g step} (hs : ∀ d S (k k' : Option T → Sto → Prop), (∀ o S, k o S → k' o S) → step d S k → step d S k') :
    ∀ l acc S (Q Q' : List T → Sto → Prop), (∀ l S, Q l S → Q' l S) → compL g step l acc S Q → compL g step l acc S Q'
  | [], acc, S, Q, Q', h, q => grd_mono (h acc S) q
  | x :: xs, acc, S, Q, Q', h, q => grd_mono (fun q => by
      refine hs _ _ _ _ ?_ q
      intro o S q
      cases o with
      | some y => exact compL_mono hs xs _ S Q Q' h q
      | none => exact compL_mono hs xs _ S Q Q' h q) q
theorem callS_mono {cf f ds S} {Q Q' : Post} {E E' : XPost} (m : Mono cf) (h : ∀ d S, Q d S → Q' d S) (hE : ∀ c a S, E c a S → E' c a S) (q : callS cf f ds S Q E) : callS cf f ds S Q' E' := by
  unfold callS at *
  split at q
  · exact m _ _ _ _ _ _ _ (fun d S q => h _ _ q) (fun c a S q => hE _ _ _ q) q
  · exact br_mono q (fun q => m _ _ _ _ _ _ _ (fun d S q => h _ _ q) (fun c a S q => hE _ _ _ q) q) fun q => q
theorem binD_mono {m o x y S} {Q Q' : Post} (h : ∀ d S, Q d S → Q' d S) (q : binD m o x y S Q) : binD m o x y S Q' := by
  unfold binD at *
  split at q
  · unfold binT at *
    split at q <;> first | exact h _ _ q | exact ⟨q.1, h _ _ q.2⟩ | exact ⟨q.1, outL_mono h q.2⟩ | exact q.elim
  · exact q.elim
theorem negD_mono {x S} {Q Q' : Post} (h : ∀ d S, Q d S → Q' d S) (q : negD x S Q) : negD x S Q' := by
  unfold negD at *
  split at q <;> first | exact h _ _ q | exact q.elim
theorem cmpT_mono {o x y} {k k' : Bool → Prop} (h : ∀ b, k b → k' b) (q : cmpT o x y k) : cmpT o x y k' := by
  unfold cmpT at *
  cases o <;> dsimp only at q ⊢ <;> first
    | exact ⟨q.1, q.2.1, h _ q.2.2⟩
    | (split at q <;> first | exact h _ q | exact ⟨q.1, h _ q.2⟩ | exact q.elim | (split at q <;> first | exact h _ q | exact q.elim))
theorem cmpD_mono {o x y S} {Q Q' : Post} (h : ∀ d S, Q d S → Q' d S) (q : cmpD o x y S Q) : cmpD o x y S Q' := by
  unfold cmpD at *
  split at q
  · exact cmpT_mono (fun b => h _ _) q
  · exact q.elim
theorem ixD_mono {x y S} {Q Q' : Post} (h : ∀ d S, Q d S → Q' d S) (q : ixD x y S Q) : ixD x y S Q' := by
  unfold ixD at *
  repeat' (first | exact h _ _ q | exact q.elim | (refine ⟨q.1, ?_⟩; replace q := q.2) | split at q)
theorem slD_mono {m x l u S} {Q Q' : Post} (h : ∀ d S, Q d S → Q' d S) (q : slD m x l u S Q) : slD m x l u S Q' := by
  unfold slD at *
  split at q <;> first | exact h _ _ q | exact ⟨q.1, h _ _ q.2⟩ | exact outL_mono h q | exact q.elim
theorem revD_mono {x S} {Q Q' : Post} (h : ∀ d S, Q d S → Q' d S) (q : revD x S Q) : revD x S Q' := by
  unfold revD at *
  split at q <;> first | exact h _ _ q | exact q.elim
theorem biD_mono {m b ds S} {Q Q' : Post} (h : ∀ d S, Q d S → Q' d S) (q : biD m b ds S Q) : biD m b ds S Q' := by
  unfold biD at *
  repeat' (first | exact h _ _ q | exact outL_mono h q | exact q.elim | exact (fun a b c => outL_mono h (q a b c)) | (refine ⟨q.1, ?_⟩; replace q := q.2) | split at q)
theorem meD_mono {b x ds S} {Q Q' : Post} (h : ∀ d S, Q d S → Q' d S) (q : meD b x ds S Q) : meD b x ds S Q' := by
  unfold meD at *
  repeat' (first | exact h _ _ q | exact q.elim | (refine ⟨q.1, ?_⟩; replace q := q.2) | split at q)
theorem rngD_mono {ds S} {k k' : List T → Prop} (h : ∀ l, k l → k' l) (q : rngD ds S k) : rngD ds S k' := by
  unfold rngD at *
  split at q <;> first | exact ⟨q.1, h _ q.2⟩ | exact q.elim
theorem seqD_mono {d S} {k k' : List T → Option (Nat × List T) → Prop} (h : ∀ l g, k l g → k' l g) (q : seqD d S k) : seqD d S k' := by
  unfold seqD at *
  repeat' (first | exact h _ _ q | exact q.elim | split at q)
theorem enuD_mono {d} {k k' : List T → Prop} (h : ∀ l, k l → k' l) (q : enuD d k) : enuD d k' := by
  unfold enuD at *
  split at q <;> first | exact h _ q | exact q.elim
theorem zipD_mono {a b S} {k k' : List T → Prop} (h : ∀ l, k l → k' l) (q : zipD a b S k) : zipD a b S k' := by
  unfold zipD at *
  split at q <;> first | exact h _ q | exact q.elim
theorem unpD_mono {d} {k k' : List T → Prop} (h : ∀ l, k l → k' l) (q : unpD d k) : unpD d k' := by
  unfold unpD at *
  split at q <;> first | exact h _ q | exact q.elim
theorem setD_mono {o i d S} {k k' : Sto → Prop} (h : ∀ S, k S → k' S) (q : setD o i d S k) : setD o i d S k' := by
  unfold setD at *
  repeat' (first | exact h _ q | exact q.elim | (refine ⟨q.1, ?_⟩; replace q := q.2) | split at q)
theorem getF_mono {c o f S} {Q Q' : Post} (h : ∀ d S, Q d S → Q' d S) (q : getF c f o S Q) : getF c f o S Q' := by
  unfold getF at *
  split at q
  · split at q
    · refine br_mono q (fun q => ?_) fun q => q
      split at q <;> first | exact h _ _ q | exact q.elim
    · exact q.elim
  · exact q.elim
theorem setF_mono {c o f d S} {k k' : Sto → Prop} (h : ∀ S, k S → k' S) (q : setF c f o d S k) : setF c f o d S k' := by
  unfold setF at *
  split at q
  · split at q
    · exact br_mono q (fun q => br_mono q (fun q => br_mono q (fun q => br_mono q (h _) fun q => q) fun q => q) fun q => q) fun q => q
    · exact q.elim
  · exact q.elim

section
variable {cf : CF} {ge : Nat → T} {up : Nat → List Ty} (m : Mono cf)
include m
abbrev Ele (E E' : XPost) : Prop := ∀ c a S, E c a S → E' c a S
mutual
theorem wpE_mono : ∀ (e : Ex) {E E' : XPost} {σ S} {Q Q' : Post}, Ele E E' → (∀ d S, Q d S → Q' d S) → wpE cf ge up e E σ S Q → wpE cf ge up e E' σ S Q'
  | .var i, E, E', σ, S, Q, Q', hE, h, q => by
    unfold wpE at *
    split at q <;> first | exact h _ _ q | exact q.elim
  | .glob _, _, _, _, _, _, _, hE, h, q => h _ _ q
  | .int _, _, _, _, _, _, _, hE, h, q => h _ _ q
  | .str _, _, _, _, _, _, _, hE, h, q => h _ _ q
  | .non, _, _, _, _, _, _, hE, h, q => h _ _ q
  | .bl _, _, _, _, _, _, _, hE, h, q => h _ _ q
  | .bin _ o a b, _, _, _, _, _, _, hE, h, q => wpE_mono a hE (fun _ _ q => wpE_mono b hE (fun _ _ q => binD_mono h q) q) q
  | .neg a, _, _, _, _, _, _, hE, h, q => wpE_mono a hE (fun _ _ q => negD_mono h q) q
  | .not a, _, _, _, _, _, _, hE, h, q => wpE_mono a hE (fun _ _ q => tru_mono (fun _ q => h _ _ q) q) q
  | .bool o es, _, _, _, _, _, _, hE, h, q => wpB_mono o es hE h q
  | .cmp a cs, _, _, _, _, _, _, hE, h, q => wpE_mono a hE (fun _ _ q => wpC_mono _ cs hE h q) q
  | .tup es, _, _, _, _, _, _, hE, h, q => wpL_mono es hE (fun ds S q => by
      split at q <;> first | exact h _ _ q | exact q.elim) q
  | .lst mm es, _, _, _, _, _, _, hE, h, q => wpL_mono es hE (fun ds S q => by
      split at q
      · exact outL_mono h q
      · split at q <;> first | exact h _ _ q | exact q.elim) q
  | .dct _ _ es, _, _, _, _, _, _, hE, h, q => wpL_mono es hE (fun ds S q => by
      split at q
      · split at q <;> exact h _ _ q
      · exact q.elim) q
  | .ix a b, _, _, _, _, _, _, hE, h, q => wpE_mono a hE (fun _ _ q => wpE_mono b hE (fun _ _ q => ixD_mono h q) q) q
  | .sl _ a lo hi, _, _, _, _, _, _, hE, h, q => wpE_mono a hE (fun _ _ q => wpO_mono lo hE (fun _ _ q => wpO_mono hi hE (fun _ _ q => slD_mono h q) q) q) q
  | .rev a, _, _, _, _, _, _, hE, h, q => wpE_mono a hE (fun _ _ q => revD_mono h q) q
  | .call f es, _, _, _, _, _, _, hE, h, q => wpL_mono es hE (fun ds S q => ⟨callS_mono m h hE q.un⟩) q
  | .calv i es, _, _, _, _, _, _, hE, h, q => by
    unfold wpE at *
    split at q
    · exact wpL_mono es hE (fun ds S q => ⟨callS_mono m h hE q.un⟩) q
    · exact q.elim
  | .bi _ b es, _, _, _, _, _, _, hE, h, q => wpL_mono es hE (fun ds S q => biD_mono h q) q
  | .listI _ it, _, _, _, _, _, _, hE, h, q => wpI_mono it hE (fun l _ S q => ⟨q.1, outL_mono h q.2⟩) q
  | .met b o es, _, _, _, _, _, _, hE, h, q => wpE_mono o hE (fun _ _ q => br_mono q (fun q => wpL_mono es hE (fun _ _ q => ⟨meD_mono h q.un⟩) q) fun q => q) q
  | .um c f o es, _, _, _, _, _, _, hE, h, q => wpE_mono o hE (fun x S q => by
      split at q
      · split at q
        · exact br_mono q (fun q => wpL_mono es hE (fun _ _ q => ⟨callS_mono m h hE q.un⟩) q) fun q => q
        · exact q.elim
      · exact q.elim) q
  | .mk c f nf es, _, _, _, _, _, _, hE, h, q => wpL_mono es hE (fun ds S q => by
      split at q
      · exact m _ _ _ _ _ _ _ (fun d S q => by
          cases d with
          | t x => cases x <;> first | exact h _ _ q | exact q.elim
          | r n => exact q.elim) (fun c a S q => hE _ _ _ q) q
      · exact q.elim) q
  | .fld c f o, _, _, _, _, _, _, hE, h, q => wpE_mono o hE (fun _ _ q => getF_mono h q) q
  | .isi a t, _, _, _, _, _, _, hE, h, q => wpE_mono a hE (fun x S q => by
      split at q <;> first | exact br_mono q (h _ _) (fun q => q) | exact q.elim) q
  | .comp mm vs tg it c e, _, _, _, _, _, _, hE, h, q => by
    unfold wpE at *
    refine wpI_mono it hE (fun l g S q => ⟨q.1, ?_⟩) q
    refine compL_mono (fun d S k k' hk q => ?_) _ _ _ _ _ (fun l S q => outL_mono h q) q.2
    refine wpG_mono tg (fun _ _ _ q => q) (fun σ S q => ?_) q
    refine wpT_mono c (fun _ _ _ q => q) (fun b S q => ?_) q
    refine br_mono q (fun q => ?_) (hk _ _)
    refine wpE_mono e (fun _ _ _ q => q) (fun d S q => ?_) q
    split at q <;> first | exact hk _ _ q | exact q.elim
theorem wpL_mono : ∀ (es : Exs) {E E' : XPost} {σ S} {Q Q' : List D → Sto → Prop}, Ele E E' → (∀ d S, Q d S → Q' d S) → wpL cf ge up es E σ S Q → wpL cf ge up es E' σ S Q'
  | .nil, _, _, _, _, _, _, hE, h, q => h _ _ q
  | .cons e r, _, _, _, _, _, _, hE, h, q => wpE_mono e hE (fun _ _ q => wpL_mono r hE (fun _ _ q => h _ _ q) q) q
theorem wpB_mono : ∀ (o : Bool) (es : Exs) {E E' : XPost} {σ S} {Q Q' : Post}, Ele E E' → (∀ d S, Q d S → Q' d S) → wpB cf ge up o es E σ S Q → wpB cf ge up o es E' σ S Q'
  | _, .nil, _, _, _, _, _, _, hE, h, q => q.elim
  | o, .cons e .nil, _, _, _, _, _, _, hE, h, q => by
    unfold wpB at *
    exact wpE_mono e hE h q
  | o, .cons e (.cons e' r'), _, _, _, _, _, _, hE, h, q => by
    unfold wpB at *
    dsimp only at q ⊢
    exact wpE_mono e hE (fun d S q => tru_mono (fun b q => by
      cases o
      · exact br_mono q (fun q => wpB_mono false (.cons e' r') hE h q) (h _ _)
      · exact br_mono q (h _ _) (fun q => wpB_mono true (.cons e' r') hE h q)) q) q
theorem wpC_mono : ∀ (x : D) (cs : Cms) {E E' : XPost} {σ S} {Q Q' : Post}, Ele E E' → (∀ d S, Q d S → Q' d S) → wpC cf ge up x cs E σ S Q → wpC cf ge up x cs E' σ S Q'
  | x, .one o e, _, _, _, _, _, _, hE, h, q => wpE_mono e hE (fun _ _ q => cmpD_mono h q) q
  | x, .cons o e r, _, _, _, _, _, _, hE, h, q => wpE_mono e hE (fun y S q => cmpD_mono (fun d S q => by
      split at q
      · exact br_mono q (fun q => wpC_mono _ r hE h q) (h _ _)
      · exact q.elim) q) q
theorem wpO_mono : ∀ (o : Exo) {E E' : XPost} {σ S} {Q Q' : Option Int → Sto → Prop}, Ele E E' → (∀ d S, Q d S → Q' d S) → wpO cf ge up o E σ S Q → wpO cf ge up o E' σ S Q'
  | .no, _, _, _, _, _, _, hE, h, q => h _ _ q
  | .so e, _, _, _, _, _, _, hE, h, q => wpE_mono e hE (fun d S q => by
      split at q <;> first | exact h _ _ q | exact q.elim) q
theorem wpT_mono : ∀ (o : Exo) {E E' : XPost} {σ S} {Q Q' : Bool → Sto → Prop}, Ele E E' → (∀ d S, Q d S → Q' d S) → wpT cf ge up o E σ S Q → wpT cf ge up o E' σ S Q'
  | .no, _, _, _, _, _, _, hE, h, q => h _ _ q
  | .so e, _, _, _, _, _, _, hE, h, q => wpE_mono e hE (fun d S q => tru_mono (fun b => h _ _) q) q
theorem wpI_mono : ∀ (i : It) {E E' : XPost} {σ S} {Q Q' : List T → Option (Nat × List T) → Sto → Prop}, Ele E E' → (∀ l g S, Q l g S → Q' l g S) → wpI cf ge up i E σ S Q → wpI cf ge up i E' σ S Q'
  | .ex e, _, _, _, _, _, _, hE, h, q => wpE_mono e hE (fun d S q => seqD_mono (fun l g => h _ _ _) q) q
  | .range es, _, _, _, _, _, _, hE, h, q => wpL_mono es hE (fun d S q => rngD_mono (fun l => h _ _ _) q) q
  | .zip a b, _, _, _, _, _, _, hE, h, q => wpE_mono a hE (fun _ _ q => wpE_mono b hE (fun _ _ q => zipD_mono (fun l => h _ _ _) q) q) q
  | .enum a, _, _, _, _, _, _, hE, h, q => wpE_mono a hE (fun _ _ q => enuD_mono (fun l => h _ _ _) q) q
theorem wpG_mono : ∀ (t : Tg) {E E' : XPost} {d σ S} {Q Q' : Sg → Sto → Prop}, Ele E E' → (∀ d S, Q d S → Q' d S) → wpG cf ge up t E d σ S Q → wpG cf ge up t E' d σ S Q'
  | .var i, _, _, _, _, _, _, _, hE, h, q => h _ _ q
  | .tup ts, _, _, _, _, _, _, _, hE, h, q => unpD_mono (fun l q => br_mono q (fun q => wpGs_mono ts l hE h q) fun q => q) q
  | .ix o i, _, _, _, _, _, _, _, hE, h, q => wpE_mono o hE (fun _ _ q => wpE_mono i hE (fun _ _ q => ⟨setD_mono (fun _ => h _ _) q.un⟩) q) q
  | .fld c f o, _, _, _, _, _, _, _, hE, h, q => wpE_mono o hE (fun _ _ q => setF_mono (fun _ => h _ _) q) q
theorem wpGs_mono : ∀ (ts : Tgs) (l : List T) {E E' : XPost} {σ S} {Q Q' : Sg → Sto → Prop}, Ele E E' → (∀ d S, Q d S → Q' d S) → wpGs cf ge up ts E l σ S Q → wpGs cf ge up ts E' l σ S Q'
  | .nil, [], _, _, _, _, _, _, hE, h, q => h _ _ q
  | .nil, _ :: _, _, _, _, _, _, _, hE, h, q => q.elim
  | .cons t r, [], _, _, _, _, _, _, hE, h, q => q.elim
  | .cons t r, x :: l, _, _, _, _, _, _, hE, h, q => wpG_mono t hE (fun _ _ q => wpGs_mono r l hE h q) q
end
mutual
theorem wpS_mono : ∀ (s : Sm) {E E' : XPost} {σ S K K'}, Ele E E' → Kle K K' → wpS cf ge up s E σ S K → wpS cf ge up s E' σ S K'
  | .asg t e, _, _, _, _, _, _, hE, h, q => wpE_mono m e hE (fun d S q => wpG_mono m t hE h.1 q) q
  | .par is es, _, _, _, _, _, _, hE, h, q => wpL_mono m es hE (fun d S q => h.1 _ _ q) q
  | .expr e, _, _, _, _, _, _, hE, h, q => wpE_mono m e hE (fun d S q => h.1 _ _ q) q
  | .ret e, _, _, _, _, _, _, hE, h, q => wpE_mono m e hE h.2.1 q
  | .ite c a b, _, _, _, _, _, _, hE, h, q => wpE_mono m c hE (fun d S q => tru_mono (fun v q => br_mono q (fun q => wpSs_mono a hE h q) (fun q => wpSs_mono b hE h q)) q) q
  | .whl c b, _, _, _, _, _, _, hE, h, q => by
    unfold wpS at *
    obtain ⟨W, h0, hs⟩ := q
    refine ⟨W, h0, fun k σ S hw => wpE_mono m c hE (fun d S q => tru_mono (fun v q => br_mono q (fun q => ?_) (h.1 _ _)) q) (hs k σ S hw)⟩
    refine wpSs_mono b hE ?_ q
    exact ⟨fun _ _ q => q, h.2.1, h.1, fun _ _ q => q⟩
  | .for_ t it b, _, _, _, _, _, _, hE, h, q => by
    unfold wpS at *
    refine wpI_mono m it hE (fun l g S q => ?_) q
    refine ⟨forL_step (fun d σ S K K' hK q => ?_) _ _ _ _ _ h q.un⟩
    exact wpG_mono m t hE (fun σ S q => wpSs_mono b hE hK q) q
  | .raise c es, _, _, _, _, _, _, hE, h, q => by
    unfold wpS at *
    refine wpL_mono m es hE (fun ds S q => ?_) q
    split at q <;> first | exact hE _ _ _ q | exact q.elim
  | .pass, _, _, _, _, _, _, hE, h, q => h.1 _ _ q
  | .brk, _, _, _, _, _, _, hE, h, q => h.2.2.1 _ _ q
  | .cont, _, _, _, _, _, _, hE, h, q => h.2.2.2 _ _ q
  | .dead, _, _, _, _, _, _, hE, h, q => q.elim
  | .tryE e isRet c n hd, _, _, _, _, _, _, hE, h, q => by
    unfold wpS at *
    refine wpE_mono m e (fun c' a S q => br_mono q (fun q => ?_) (hE _ _ _)) (fun d S q => ?_) q
    · cases n with
      | none => exact wpSs_mono hd hE h q
      | some i =>
        refine wpSs_mono hd hE ?_ q
        exact ⟨fun _ _ q => h.1 _ _ q, h.2.1, fun _ _ q => h.2.2.1 _ _ q, fun _ _ q => h.2.2.2 _ _ q⟩
    · cases isRet
      · exact h.1 _ _ q
      · exact h.2.1 _ _ q
theorem wpSs_mono : ∀ (s : Sms) {E E' : XPost} {σ S K K'}, Ele E E' → Kle K K' → wpSs cf ge up s E σ S K → wpSs cf ge up s E' σ S K'
  | .nil, _, _, _, _, _, _, hE, h, q => h.1 _ _ q
  | .cons s r, _, _, _, _, _, _, hE, h, q => by
    unfold wpSs at *
    refine wpS_mono s hE ?_ q
    exact ⟨fun σ S q => wpSs_mono r hE h q, h.2.1, h.2.2.1, h.2.2.2⟩
end
end
theorem exitQ_mono {k} {Q Q' : Post} (h : ∀ d S, Q d S → Q' d S) {v S} (q : exitQ k Q v S) : exitQ k Q' v S := br_mono q (fun q => by
  split at q
  · exact h _ _ q
  · refine br_mono q (h _ _) (fun q => ?_)
    split at q
    · exact h _ _ q
    · split at q <;> first | exact h _ _ q | exact q.elim
    · exact q.elim) fun q => q
theorem exitM_mono {k} {Q Q' : Post} (h : ∀ d S, Q d S → Q' d S) {v S} (q : exitM k Q v S) : exitM k Q' v S := br_mono q (fun q => by
  split at q
  · exact h _ _ q
  · refine br_mono q (h _ _) (fun q => ?_)
    split at q
    · exact h _ _ q
    · exact q.elim) fun q => q
theorem knF_mono {md k} {Q Q' : Post} (h : ∀ d S, Q d S → Q' d S) : Kle (knF md k Q) (knF md k Q') := by
  unfold knF
  split
  · refine ⟨fun _ _ q => ?_, fun _ _ q => ?_, fun _ _ q => q, fun _ _ q => q⟩
    · exact exitQ_mono (v := .t .non) h q
    · exact exitQ_mono h q
  · refine ⟨fun _ _ q => ?_, fun _ _ q => ?_, fun _ _ q => q, fun _ _ q => q⟩
    · exact exitM_mono (v := .t .non) h q
    · exact exitM_mono h q
  · exact ⟨fun _ _ q => h _ _ q, h, fun _ _ q => q, fun _ _ q => q⟩
theorem cfn_mono {tab ge up} : ∀ n, Mono (cfn tab ge up n)
  | 0 => fun _ _ _ _ _ _ _ _ _ q => q.elim
  | n + 1 => fun f ds S Q Q' E E' h hE q => by
    unfold cfn at *
    split at q
    · exact ⟨q.1, wpSs_mono (cfn_mono n) _ (fun c a S q => br_mono q (hE _ _ _) fun q => q) (knF_mono h) q.2⟩
    · exact q.elim
end MP

set_option Elab.async false
set_option linter.all false
set_option maxRecDepth 100000
namespace MP
open PySem L2
/-! ### how data and store lie in the heap -/
/-- the program's places and names -/
structure Gx where
  K : PySem.W.Frag
  cad : Nat → Addr
  fad : Nat → Addr
  fnm : Nat → Nat → Str
  xf : Nat → Option Str
  nf : Nat → Nat
  kf : Nat → Bool

/-- the store's objects by their places; the callers' objects, which are none of data either -/
structure Md where
  f : List Addr
  a : List Addr
def Md.bad (ms : Md) (x : Addr) : Prop := x ∈ ms.f ∨ x ∈ ms.a
def Md.add (ms : Md) (x : Addr) : Md := ⟨ms.f, ms.a ++ [x]⟩
/-- a tuple: tracked or read, no object of the store; or one of the module's -/
def TupAt (K : PySem.W.Frag) (ms : Md) (H : Hp) (a : Addr) (xs : List V) : Prop :=
  (Rd H a (.tup xs) ∧ ¬ ms.bad a) ∨ ∃ (o : Obj) (its : Array Value) (n : Nat), K.lookup a = some o ∧ o.cls = .type "tuple" ∧ o.data = .seq its n ∧ its.size ≤ sizeLine ∧ Vals xs its.toList
theorem TupAt.sq {K ms H a xs} (h : TupAt K ms H a xs) : SqT K H a xs := h.elim (fun h => .inl h.1) .inr
def LstAt (K : PySem.W.Frag) (ms : Md) (H : Hp) (a : Addr) (xs : List V) : Prop :=
  (Rd H a (.lst xs) ∧ ¬ ms.bad a) ∨ ∃ (o : Obj) (its : Array Value) (n : Nat), K.lookup a = some o ∧ o.cls = .type "list" ∧ o.dict = none ∧ o.data = .seq its n ∧ its.size ≤ sizeLine ∧ Vals xs its.toList
theorem LstAt.sq {K ms H a xs} (h : LstAt K ms H a xs) : SqL K H a xs := h.elim (fun h => .inl h.1) .inr
mutual
inductive RT (G : Gx) (ms : Md) (H : Hp) : T → V → Prop
  | non : RT G ms H .non .non
  | bl (b : Bool) : RT G ms H (.bl b) (.bl b)
  | int (i : Int) : RT G ms H (.int i) (.int i)
  | str (x : Str) : RT G ms H (.str x) (.str x)
  | tup {a : Addr} {xs : List V} {l : List T} : TupAt G.K ms H a xs → RTs G ms H l xs → RT G ms H (.tup l) (.ref a)
  | lst {a : Addr} {xs : List V} {l : List T} : H a = some (.lst xs) → ¬ ms.bad a → RTs G ms H l xs → RT G ms H (.lst l) (.ref a)
  | dct {a : Addr} {xs : List (Key × V)} {l : List (Key × T)} : H a = some (.dK xs) → ¬ ms.bad a → RKs G ms H l xs → RT G ms H (.dct l) (.ref a)
  | scr {a : Addr} {ns : List Int} : LstAt G.K ms H a (ns.map V.int) → RT G ms H (.scr ns) (.ref a)
  | fn (f : Nat) : G.kf f = true → RT G ms H (.fn f) (.ref (G.fad f))
inductive RTs (G : Gx) (ms : Md) (H : Hp) : List T → List V → Prop
  | nil : RTs G ms H [] []
  | cons {t : T} {v : V} {ts : List T} {vs : List V} : RT G ms H t v → RTs G ms H ts vs → RTs G ms H (t :: ts) (v :: vs)
inductive RKs (G : Gx) (ms : Md) (H : Hp) : List (Key × T) → List (Key × V) → Prop
  | nil : RKs G ms H [] []
  | cons {k : Key} {t : T} {v : V} {ts : List (Key × T)} {vs : List (Key × V)} : RT G ms H t v → RKs G ms H ts vs → RKs G ms H ((k, t) :: ts) ((k, v) :: vs)
end
structure Grow (ms : Md) (H : Hp) (ms' : Md) (H' : Hp) : Prop where
  pre : ∃ more, ms'.a = ms.a ++ more ∧ ∀ x ∈ more, H x = none
  ff : ms'.f = ms.f
  keep : ∀ a o, H a = some o → a ∉ ms.a → H' a = some o
  stay : ∀ a o, H a = some o → ∃ o', H' a = some o'
theorem Grow.refl {ms H} : Grow ms H ms H := ⟨⟨[], by simp⟩, rfl, fun _ _ h _ => h, fun _ o h => ⟨o, h⟩⟩
theorem Grow.bad {ms H ms' H'} (g : Grow ms H ms' H') {x : Addr} (h : ms'.bad x) : ms.bad x ∨ H x = none := by
  obtain ⟨more, e, hn⟩ := g.pre
  rcases h with h | h
  · exact .inl (.inl (g.ff ▸ h))
  · rw [e] at h
    rcases List.mem_append.mp h with h | h
    · exact .inl (.inr h)
    · exact .inr (hn x h)
theorem Grow.notin {ms H ms' H'} (g : Grow ms H ms' H') {a : Addr} {o : HO} (h : H a = some o) (n : ¬ ms.bad a) : ¬ ms'.bad a := fun q => by
  rcases g.bad q with q | q
  · exact n q
  · rw [h] at q; cases q
theorem Grow.keepB {ms H ms' H'} (g : Grow ms H ms' H') {a : Addr} {o : HO} (h : H a = some o) (n : ¬ ms.bad a) : H' a = some o := g.keep a o h fun q => n (.inr q)
theorem Grow.trans {ms H ms' H' ms'' H''} (g : Grow ms H ms' H') (k : Grow ms' H' ms'' H'') : Grow ms H ms'' H'' := by
  obtain ⟨m1, e1, n1⟩ := g.pre
  obtain ⟨m2, e2, n2⟩ := k.pre
  refine ⟨⟨m1 ++ m2, by rw [e2, e1, List.append_assoc], fun x hx => ?_⟩, k.ff.trans g.ff, fun a o h n => k.keep a o (g.keep a o h n) fun q => ?_, fun a o h => ?_⟩
  · rcases List.mem_append.mp hx with hx | hx
    · exact n1 x hx
    · have z := n2 x hx
      cases e : H x with
      | none => rfl
      | some o =>
        obtain ⟨o', q⟩ := g.stay x o e
        rw [q] at z; cases z
  · rw [e1] at q
    rcases List.mem_append.mp q with q | q
    · exact n q
    · have := n1 a q
      rw [h] at this; cases this
  · obtain ⟨o', h'⟩ := g.stay a o h
    exact k.stay a o' h'
theorem Grow.nthG {ms H ms' H'} (g : Grow ms H ms' H') {n a} (h : nth ms.a n = some a) : nth ms'.a n = some a := by
  obtain ⟨m, e, _⟩ := g.pre
  rw [e]
  rw [nth_eq] at *
  rw [List.getElem?_append_left (List.getElem?_eq_some_iff.mp h).1, h]
theorem TupAt.grow {K ms H ms' H' a xs} (g : Grow ms H ms' H') (h : TupAt K ms H a xs) : TupAt K ms' H' a xs := by
  rcases h with ⟨h | ⟨o, h⟩, n⟩ | h
  · exact .inl ⟨.inl (g.keepB h n), g.notin h n⟩
  · exact .inl ⟨.inr ⟨o, g.keepB h n⟩, g.notin h n⟩
  · exact .inr h
theorem LstAt.grow {K ms H ms' H' a xs} (g : Grow ms H ms' H') (h : LstAt K ms H a xs) : LstAt K ms' H' a xs := by
  rcases h with ⟨h | ⟨o, h⟩, n⟩ | h
  · exact .inl ⟨.inl (g.keepB h n), g.notin h n⟩
  · exact .inl ⟨.inr ⟨o, g.keepB h n⟩, g.notin h n⟩
  · exact .inr h
section
variable {G : Gx} {ms ms' : Md} {H H' : Hp}
mutual
theorem RT.grow (g : Grow ms H ms' H') : ∀ {t : T} {v : V}, RT G ms H t v → RT G ms' H' t v
  | _, _, .non => .non
  | _, _, .bl b => .bl b
  | _, _, .int i => .int i
  | _, _, .str x => .str x
  | _, _, .tup h k => .tup (h.grow g) (k.grow g)
  | _, _, .lst h n k => .lst (g.keepB h n) (g.notin h n) (k.grow g)
  | _, _, .dct h n k => .dct (g.keepB h n) (g.notin h n) (k.grow g)
  | _, _, .scr h => .scr (h.grow g)
  | _, _, .fn f h => .fn f h
theorem RTs.grow (g : Grow ms H ms' H') : ∀ {t : List T} {v : List V}, RTs G ms H t v → RTs G ms' H' t v
  | _, _, .nil => .nil
  | _, _, .cons h k => .cons (h.grow g) (k.grow g)
theorem RKs.grow (g : Grow ms H ms' H') : ∀ {t : List (Key × T)} {v : List (Key × V)}, RKs G ms H t v → RKs G ms' H' t v
  | _, _, .nil => .nil
  | _, _, .cons h k => .cons (h.grow g) (k.grow g)
end
end

section
variable (G : Gx) (ms : Md) (H : Hp)
inductive RD : D → V → Prop
  | t {x : T} {v : V} : RT G ms H x v → RD (.t x) v
  | r {n : Nat} {a : Addr} : nth ms.a n = some a → RD (.r n) (.ref a)
inductive RDs : List D → List V → Prop
  | nil : RDs [] []
  | cons {d : D} {v : V} {ds : List D} {vs : List V} : RD G ms H d v → RDs ds vs → RDs (d :: ds) (v :: vs)
/-- an instance's attributes in their order -/
inductive RFs (c : Nat) : Nat → List (Option D) → List (Str × V) → Prop
  | nil {i : Nat} : RFs c i [] []
  | no {i : Nat} {fs : List (Option D)} {r : List (Str × V)} : RFs c (i + 1) fs r → RFs c i (none :: fs) r
  | so {i : Nat} {d : D} {v : V} {fs : List (Option D)} {r : List (Str × V)} : RD G ms H d v → RFs c (i + 1) fs r → RFs c i (some d :: fs) ((G.fnm c i, v) :: r)
inductive RO : Ob → Addr → Prop
  | lst {l : List T} {a : Addr} {xs : List V} : H a = some (.lst xs) → RTs G ms H l xs → RO (.lst l) a
  | lsD {l : List D} {a : Addr} {xs : List V} : H a = some (.lst xs) → RDs G ms H l xs → RO (.lsD l) a
  | dct {l : List (Key × T)} {a : Addr} {xs : List (Key × V)} : H a = some (.dK xs) → RKs G ms H l xs → RO (.dct l) a
  | ins {c : Nat} {fs : List (Option D)} {a dx : Addr} {r : List (Str × V)} : H a = some (.ins (G.cad c) dx r) → RFs G ms H c 0 fs r → fs.length ≤ G.nf c → RO (.ins c fs) a
structure Sim (S : Sto) : Prop where
  len : ms.a.length = S.length
  nd : ms.a.Nodup
  ob : ∀ n o, nth S n = some o → ∃ a, nth ms.a n = some a ∧ RO G ms H o a
  trk : ∀ a, a ∈ ms.f → ∃ u, H a = some u
def Sl (σI : Sg) (σ : St) : Prop := σI.length = σ.length ∧ ∀ i d, nth σI i = some (some d) → ∃ v, σ[i]? = some (some v) ∧ RD G ms H d v
end
section
variable {G : Gx} {ms ms' : Md} {H H' : Hp}
theorem RD.grow (g : Grow ms H ms' H') {d v} : RD G ms H d v → RD G ms' H' d v
  | .t h => .t (h.grow g)
  | .r h => .r (g.nthG h)
theorem RDs.grow (g : Grow ms H ms' H') : ∀ {d v}, RDs G ms H d v → RDs G ms' H' d v
  | _, _, .nil => .nil
  | _, _, .cons h k => .cons (h.grow g) (k.grow g)
theorem RFs.grow (g : Grow ms H ms' H') {c} : ∀ {i d v}, RFs G ms H c i d v → RFs G ms' H' c i d v
  | _, _, _, .nil => .nil
  | _, _, _, .no h => .no (h.grow g)
  | _, _, _, .so h k => .so (h.grow g) (k.grow g)
/-- where its own object stands as before -/
theorem RO.grow (g : Grow ms H ms' H') {o a} (h : RO G ms H o a) (e : H' a = H a) : RO G ms' H' o a := by
  cases h with
  | lst h k => exact .lst (e.trans h) (k.grow g)
  | lsD h k => exact .lsD (e.trans h) (k.grow g)
  | dct h k => exact .dct (e.trans h) (k.grow g)
  | ins h k z => exact .ins (e.trans h) (k.grow g) z
theorem Sl.grow (g : Grow ms H ms' H') {σI σ} (h : Sl G ms H σI σ) : Sl G ms' H' σI σ := ⟨h.1, fun i d e => by
  obtain ⟨v, e1, e2⟩ := h.2 i d e
  exact ⟨v, e1, e2.grow g⟩⟩
theorem RO.some {o a} (h : RO G ms H o a) : ∃ u, H a = some u := by
  cases h with
  | lst h _ => exact ⟨_, h⟩
  | lsD h _ => exact ⟨_, h⟩
  | dct h _ => exact ⟨_, h⟩
  | ins h _ _ => exact ⟨_, h⟩
theorem TupAt.cong {K a xs} (b : ∀ x, ms'.bad x → ms.bad x ∨ H x = none) (h : TupAt K ms H a xs) : TupAt K ms' H a xs := by
  rcases h with ⟨h | ⟨o, h⟩, n⟩ | h
  · exact .inl ⟨.inl h, fun q => (b _ q).elim n fun z => by rw [h] at z; cases z⟩
  · exact .inl ⟨.inr ⟨o, h⟩, fun q => (b _ q).elim n fun z => by rw [h] at z; cases z⟩
  · exact .inr h
theorem LstAt.cong {K a xs} (b : ∀ x, ms'.bad x → ms.bad x ∨ H x = none) (h : LstAt K ms H a xs) : LstAt K ms' H a xs := by
  rcases h with ⟨h | ⟨o, h⟩, n⟩ | h
  · exact .inl ⟨.inl h, fun q => (b _ q).elim n fun z => by rw [h] at z; cases z⟩
  · exact .inl ⟨.inr ⟨o, h⟩, fun q => (b _ q).elim n fun z => by rw [h] at z; cases z⟩
  · exact .inr h
mutual
theorem RT.cong (b : ∀ x, ms'.bad x → ms.bad x ∨ H x = none) : ∀ {t : T} {v : V}, RT G ms H t v → RT G ms' H t v
  | _, _, .non => .non
  | _, _, .bl b => .bl b
  | _, _, .int i => .int i
  | _, _, .str x => .str x
  | _, _, .tup h k => .tup (h.cong b) (k.cong b)
  | _, _, .lst h n k => .lst h (fun q => (b _ q).elim n fun z => by rw [h] at z; cases z) (k.cong b)
  | _, _, .dct h n k => .dct h (fun q => (b _ q).elim n fun z => by rw [h] at z; cases z) (k.cong b)
  | _, _, .scr h => .scr (h.cong b)
  | _, _, .fn f h => .fn f h
theorem RTs.cong (b : ∀ x, ms'.bad x → ms.bad x ∨ H x = none) : ∀ {t : List T} {v : List V}, RTs G ms H t v → RTs G ms' H t v
  | _, _, .nil => .nil
  | _, _, .cons h k => .cons (h.cong b) (k.cong b)
theorem RKs.cong (b : ∀ x, ms'.bad x → ms.bad x ∨ H x = none) : ∀ {t : List (Key × T)} {v : List (Key × V)}, RKs G ms H t v → RKs G ms' H t v
  | _, _, .nil => .nil
  | _, _, .cons h k => .cons (h.cong b) (k.cong b)
end
theorem RTs.length : ∀ {l xs}, RTs G ms H l xs → l.length = xs.length
  | _, _, .nil => rfl
  | _, _, .cons _ k => congrArg (· + 1) k.length
theorem RDs.length : ∀ {l xs}, RDs G ms H l xs → l.length = xs.length
  | _, _, .nil => rfl
  | _, _, .cons _ k => congrArg (· + 1) k.length
theorem RKs.length : ∀ {l xs}, RKs G ms H l xs → l.length = xs.length
  | _, _, .nil => rfl
  | _, _, .cons _ k => congrArg (· + 1) k.length
theorem RTs.append : ∀ {l xs l' xs'}, RTs G ms H l xs → RTs G ms H l' xs' → RTs G ms H (l ++ l') (xs ++ xs')
  | _, _, _, _, .nil, k => k
  | _, _, _, _, .cons h r, k => .cons h (r.append k)
theorem RDs.append : ∀ {l xs l' xs'}, RDs G ms H l xs → RDs G ms H l' xs' → RDs G ms H (l ++ l') (xs ++ xs')
  | _, _, _, _, .nil, k => k
  | _, _, _, _, .cons h r, k => .cons h (r.append k)
theorem RTs.take : ∀ {l xs} (n : Nat), RTs G ms H l xs → RTs G ms H (l.take n) (xs.take n)
  | _, _, 0, _ => .nil
  | _, _, _ + 1, .nil => .nil
  | _, _, n + 1, .cons h r => .cons h (r.take n)
theorem RTs.drop : ∀ {l xs} (n : Nat), RTs G ms H l xs → RTs G ms H (l.drop n) (xs.drop n)
  | _, _, 0, h => h
  | _, _, _ + 1, .nil => .nil
  | _, _, n + 1, .cons h r => r.drop n
theorem RTs.get : ∀ {l xs} {n : Nat} {x}, RTs G ms H l xs → l[n]? = .some x → ∃ v, xs[n]? = .some v ∧ RT G ms H x v
  | _, _, _, _, .nil, h => by simp at h
  | _, _, 0, _, .cons h r, e => by
    simp at e; subst e
    exact ⟨_, rfl, h⟩
  | _, _, n + 1, x, .cons h r, e => by
    obtain ⟨v, h1, h2⟩ := r.get (n := n) (x := x) (by simpa using e)
    exact ⟨v, by simpa using h1, h2⟩
theorem RDs.get : ∀ {l xs} {n : Nat} {x}, RDs G ms H l xs → l[n]? = .some x → ∃ v, xs[n]? = .some v ∧ RD G ms H x v
  | _, _, _, _, .nil, h => by simp at h
  | _, _, 0, _, .cons h r, e => by
    simp at e; subst e
    exact ⟨_, rfl, h⟩
  | _, _, n + 1, x, .cons h r, e => by
    obtain ⟨v, h1, h2⟩ := r.get (n := n) (x := x) (by simpa using e)
    exact ⟨v, by simpa using h1, h2⟩
theorem RTs.set : ∀ {l xs} {x v} (n : Nat), RTs G ms H l xs → RT G ms H x v → RTs G ms H (l.set n x) (xs.set n v)
  | _, _, _, _, _, .nil, _ => .nil
  | _, _, _, _, 0, .cons _ r, h => .cons h r
  | _, _, _, _, n + 1, .cons k r, h => .cons k (r.set n h)
theorem RTs.eraseIdx : ∀ {l xs} (n : Nat), RTs G ms H l xs → RTs G ms H (l.eraseIdx n) (xs.eraseIdx n)
  | _, _, _, .nil => .nil
  | _, _, 0, .cons _ r => r
  | _, _, n + 1, .cons k r => .cons k (r.eraseIdx n)
theorem RTs.reverse : ∀ {l xs}, RTs G ms H l xs → RTs G ms H l.reverse xs.reverse
  | _, _, .nil => .nil
  | _, _, .cons h r => by
    rw [List.reverse_cons, List.reverse_cons]
    exact r.reverse.append (.cons h .nil)
theorem RTs.dropLast {l xs} (h : RTs G ms H l xs) : RTs G ms H l.dropLast xs.dropLast := by
  rw [List.dropLast_eq_take, List.dropLast_eq_take, h.length]
  exact h.take _
theorem RTs.rep {l xs} (h : RTs G ms H l xs) : ∀ k : Nat, RTs G ms H (List.replicate k l).flatten (List.replicate k xs).flatten
  | 0 => .nil
  | k + 1 => by
    rw [List.replicate_succ, List.replicate_succ, List.flatten_cons, List.flatten_cons]
    exact h.append (h.rep k)
theorem RTs.ints : ∀ (ns : List Int), RTs G ms H (ns.map T.int) (ns.map V.int)
  | [] => .nil
  | n :: r => .cons (.int n) (RTs.ints r)
theorem RTs.ints_of : ∀ {ns : List Int} {xs}, RTs G ms H (ns.map T.int) xs → xs = ns.map V.int
  | [], _, .nil => rfl
  | n :: r, _, .cons h k => by
    cases h
    rw [RTs.ints_of k]; rfl
theorem RTs.bls_of : ∀ {ns : List Bool} {xs}, RTs G ms H (ns.map T.bl) xs → xs = ns.map V.bl
  | [], _, .nil => rfl
  | n :: r, _, .cons h k => by
    cases h
    rw [RTs.bls_of k]; rfl

/-! ### what happens to the heap -/
theorem mem_of_nth {α : Type} {l : List α} {n : Nat} {a : α} (h : nth l n = some a) : a ∈ l := by
  rw [nth_eq] at h
  exact List.mem_of_getElem? h
theorem nth_of_mem {α : Type} {l : List α} {a : α} (h : a ∈ l) : ∃ n, nth l n = some a := by
  obtain ⟨n, e⟩ := List.mem_iff_getElem?.mp h
  exact ⟨n, by rw [nth_eq]; exact e⟩
theorem nth_lt {α : Type} {l : List α} {n : Nat} {a : α} (h : nth l n = some a) : n < l.length := by
  rw [nth_eq] at h
  exact (List.getElem?_eq_some_iff.mp h).1
theorem nth_some {α : Type} {l : List α} {n : Nat} (h : n < l.length) : ∃ a, nth l n = some a := by
  rw [nth_eq]
  exact ⟨_, List.getElem?_eq_getElem h⟩
theorem nd_nth {l : List Addr} (h : l.Nodup) {i j : Nat} {a : Addr} (e : nth l i = some a) (e' : nth l j = some a) : i = j := by
  rw [nth_eq] at *
  obtain ⟨h1, e1⟩ := List.getElem?_eq_some_iff.mp e
  obtain ⟨h2, e2⟩ := List.getElem?_eq_some_iff.mp e'
  exact (List.getElem_inj h).mp (e1.trans e2.symm)
theorem Sim.tracked {S} (s : Sim G ms H S) {a : Addr} (h : a ∈ ms.a) : ∃ u, H a = some u := by
  obtain ⟨n, e⟩ := nth_of_mem h
  obtain ⟨o, eo⟩ := nth_some (l := S) (n := n) (by rw [← s.len]; exact nth_lt e)
  obtain ⟨a', e', r⟩ := s.ob n o eo
  rw [e] at e'; cases e'
  exact r.some
theorem Sim.freshA {S} (s : Sim G ms H S) {p : Addr} (h : H p = none) : p ∉ ms.a := fun q => by
  obtain ⟨u, e⟩ := s.tracked q
  rw [h] at e; cases e
theorem Sim.fresh {S} (s : Sim G ms H S) {p : Addr} (h : H p = none) : ¬ ms.bad p := fun q => by
  rcases q with q | q
  · obtain ⟨u, e⟩ := s.trk p q
    rw [h] at e; cases e
  · exact s.freshA h q
theorem upd_stay {p : Addr} {u : HO} : ∀ a o, H a = some o → ∃ o', upd H p u a = some o' := fun a o e => by
  by_cases h : a = p
  · subst h; exact ⟨u, by simp [upd]⟩
  · exact ⟨o, by rw [upd_ne h]; exact e⟩
/-- a new object that the store doesn't know -/
theorem Grow.laid0 {p : Addr} (h : H p = none) (u : HO) : Grow ms H ms (upd H p u) :=
  ⟨⟨[], by simp⟩, rfl, fun a o e _ => by rw [upd_ne (ne_of_none e h)]; exact e, upd_stay⟩
theorem Grow.laid {S} (s : Sim G ms H S) {p : Addr} (h : H p = none) (u : HO) : Grow ms H ms (upd H p u) := Grow.laid0 h u
theorem Sim.keep {S} (s : Sim G ms H S) (g : Grow ms H ms H') (k : ∀ a, a ∈ ms.a → H' a = H a) : Sim G ms H' S :=
  ⟨s.len, s.nd, fun n o e => by
    obtain ⟨a, e1, r⟩ := s.ob n o e
    exact ⟨a, e1, r.grow g (k a (mem_of_nth e1))⟩, fun a h => by
    obtain ⟨u, e⟩ := s.trk a h
    exact g.stay a u e⟩
theorem Sim.laid {S} (s : Sim G ms H S) {p : Addr} (h : H p = none) (u : HO) : Sim G ms (upd H p u) S :=
  s.keep (Grow.laid s h u) fun a q => by
    obtain ⟨v, e⟩ := s.tracked q
    exact upd_ne (ne_of_none e h)
/-- a new object of the store -/
theorem Grow.alloc {p : Addr} (h : H p = none) (u : HO) : Grow ms H (ms.add p) (upd H p u) :=
  ⟨⟨[p], rfl, fun x hx => by
    have e : x = p := by simpa using hx
    rw [e]; exact h⟩, rfl, fun a o e _ => by rw [upd_ne (ne_of_none e h)]; exact e, upd_stay⟩
theorem nth_app_lt {α : Type} {l k : List α} {n : Nat} (h : n < l.length) : nth (l ++ k) n = nth l n := by
  rw [nth_eq, nth_eq, List.getElem?_append_left h]
theorem nth_app_len {α : Type} {l : List α} {x : α} : nth (l ++ [x]) l.length = some x := by
  rw [nth_eq]; simp
theorem Sim.alloc {S} (s : Sim G ms H S) {p : Addr} (h : H p = none) (u : HO) {ob : Ob} (r : RO G (ms.add p) (upd H p u) ob p) : Sim G (ms.add p) (upd H p u) (S ++ [ob]) := by
  refine ⟨by simp [s.len, Md.add], ?_, fun n o e => ?_, fun a ha => ?_⟩
  · show (ms.a ++ [p]).Nodup
    rw [List.nodup_append]
    refine ⟨s.nd, by simp, fun a ha b hb e => ?_⟩
    have : b = p := by simpa using hb
    subst this; subst e
    exact s.freshA h ha
  · by_cases hn : n < S.length
    · rw [nth_app_lt hn] at e
      obtain ⟨a, e1, r1⟩ := s.ob n o e
      refine ⟨a, by show nth (ms.a ++ [p]) n = _; rw [nth_app_lt (by rw [s.len]; exact hn)]; exact e1, r1.grow (Grow.alloc h u) ?_⟩
      obtain ⟨v, e⟩ := r1.some
      exact upd_ne (ne_of_none e h)
    · have hl : n < (S ++ [ob]).length := nth_lt e
      have : n = S.length := by simp at hl; omega
      subst this
      rw [nth_app_len] at e
      cases e
      exact ⟨p, by show nth (ms.a ++ [p]) _ = _; rw [← s.len]; exact nth_app_len, r⟩
  · obtain ⟨v, e⟩ := s.trk a ha
    exact upd_stay a v e
/-- an object of the store is written -/
theorem Grow.write {S} (s : Sim G ms H S) {n : Nat} {a : Addr} (h : nth ms.a n = some a) (u : HO) : Grow ms H ms (upd H a u) :=
  ⟨⟨[], by simp⟩, rfl, fun b o e q => by
    have hb : b ≠ a := fun z => q (by rw [z]; exact mem_of_nth h)
    rw [upd_ne hb]; exact e, upd_stay⟩
theorem nth_set_self {α : Type} {l : List α} {n : Nat} {x : α} (h : n < l.length) : nth (l.set n x) n = some x := by
  rw [nth_eq, List.getElem?_set_self h]
theorem nth_set_ne {α : Type} {l : List α} {n m : Nat} {x : α} (h : n ≠ m) : nth (l.set n x) m = nth l m := by
  rw [nth_eq, nth_eq, List.getElem?_set_ne h]
theorem Sim.write {S} (s : Sim G ms H S) {n : Nat} {a : Addr} (h : nth ms.a n = some a) (u : HO) {ob : Ob} (r : RO G ms (upd H a u) ob a) : Sim G ms (upd H a u) (S.set n ob) := by
  refine ⟨by simp [s.len], s.nd, fun m o e => ?_, fun b hb => ?_⟩
  by_cases hm : n = m
  · subst hm
    rw [nth_set_self (by rw [← s.len]; exact nth_lt h)] at e
    cases e
    exact ⟨a, h, r⟩
  · rw [nth_set_ne hm] at e
    obtain ⟨b, e1, r1⟩ := s.ob m o e
    exact ⟨b, e1, r1.grow (Grow.write s h u) (upd_ne fun z => hm (nd_nth s.nd h (by rw [← z]; exact e1)))⟩
  · obtain ⟨v, e⟩ := s.trk b hb
    exact upd_stay b v e
end
end MP

set_option Elab.async false
set_option linter.all false
set_option maxRecDepth 100000
set_option maxHeartbeats 1000000
namespace MP
open PySem L2 PySem.Spec PyProof.Rows
/-! ### what an operation promises behind it -/
abbrev pst (G : Gx) (ms : Md) (H : Hp) (Q : VK) : Post := fun d S' => ∀ v ms' H', Grow ms H ms' H' → Sim G ms' H' S' → RD G ms' H' d v → Q v H'
section
variable {G : Gx} {ms : Md} {H : Hp} {S : Sto}
/-- a value read as data -/
inductive RR (G : Gx) (ms : Md) (H : Hp) : T → V → Prop
  | t {x : T} {v : V} : RT G ms H x v → RR G ms H x v
  | lst {a : Addr} {xs : List V} {l : List T} : H a = some (.lst xs) → RTs G ms H l xs → RR G ms H (.lst l) (.ref a)
  | dct {a : Addr} {xs : List (Key × V)} {l : List (Key × T)} : H a = some (.dK xs) → RKs G ms H l xs → RR G ms H (.dct l) (.ref a)
theorem rdT_ok (s : Sim G ms H S) {d : D} {v : V} (h : RD G ms H d v) {x : T} (e : rdT d S = some x) : RR G ms H x v := by
  cases h with
  | t h =>
    simp only [rdT, Option.some.injEq] at e
    subst e
    exact .t h
  | r h =>
    unfold rdT at e
    split at e
    · rename_i eq; cases eq
    · rename_i n e1
      cases e1
      split at e
      · rename_i l e2
        cases e
        obtain ⟨a, e3, r⟩ := s.ob _ _ e2
        rw [h] at e3; cases e3
        cases r with
        | lst h1 h2 => exact .lst h1 h2
      · rename_i l e2
        cases e
        obtain ⟨a, e3, r⟩ := s.ob _ _ e2
        rw [h] at e3; cases e3
        cases r with
        | dct h1 h2 => exact .dct h1 h2
      · cases e
theorem RR.int {i : Int} {v : V} (h : RR G ms H (.int i) v) : v = .int i := by cases h with | t h => cases h; rfl
theorem RR.bl {i : Bool} {v : V} (h : RR G ms H (.bl i) v) : v = .bl i := by cases h with | t h => cases h; rfl
theorem RR.str {i : Str} {v : V} (h : RR G ms H (.str i) v) : v = .str i := by cases h with | t h => cases h; rfl
theorem RR.non {v : V} (h : RR G ms H .non v) : v = .non := by cases h with | t h => cases h; rfl
theorem RR.tup {l : List T} {v : V} (h : RR G ms H (.tup l) v) : ∃ a xs, v = .ref a ∧ TupAt G.K ms H a xs ∧ RTs G ms H l xs := by
  cases h with | t h => cases h with | tup h1 h2 => exact ⟨_, _, rfl, h1, h2⟩
theorem RR.lstE {l : List T} {v : V} (h : RR G ms H (.lst l) v) : ∃ a xs, v = .ref a ∧ H a = some (.lst xs) ∧ RTs G ms H l xs := by
  cases h with
  | t h => cases h with | lst h1 h2 h3 => exact ⟨_, _, rfl, h1, h3⟩
  | lst h1 h2 => exact ⟨_, _, rfl, h1, h2⟩
theorem RR.dctE {l : List (Key × T)} {v : V} (h : RR G ms H (.dct l) v) : ∃ a xs, v = .ref a ∧ H a = some (.dK xs) ∧ RKs G ms H l xs := by
  cases h with
  | t h => cases h with | dct h1 h2 h3 => exact ⟨_, _, rfl, h1, h3⟩
  | dct h1 h2 => exact ⟨_, _, rfl, h1, h2⟩
theorem RR.scr {l : List Int} {v : V} (h : RR G ms H (.scr l) v) : ∃ a, v = .ref a ∧ LstAt G.K ms H a (l.map V.int) := by
  cases h with | t h => cases h with | scr h1 => exact ⟨_, rfl, h1⟩
theorem rdL_ok (s : Sim G ms H S) {d : D} {v : V} (h : RD G ms H d v) {l : List T} (e : rdL d S = some l) : ∃ a xs, v = .ref a ∧ H a = some (.lst xs) ∧ RTs G ms H l xs := by
  have e2 : rdT d S = some (.lst l) := by
    cases d with
    | t x => cases x <;> simp [rdL] at e <;> simp [rdT, e]
    | r n =>
      simp only [rdL] at e
      simp only [rdT]
      split at e
      · rename_i l' e1
        cases e
        rw [e1]
      · cases e
  exact (rdT_ok s h e2).lstE

/-- data handed out -/
theorem pst_t {Q : VK} {x : T} {v : V} (s : Sim G ms H S) (q : pst G ms H Q (.t x) S) (r : RT G ms H x v) : Q v H := q _ _ _ .refl s (.t r)
theorem rts_laid (s : Sim G ms H S) {p : Addr} (hp : H p = none) {u : HO} {l : List T} {xs : List V} (r : RTs G ms H l xs) : RTs G ms (upd H p u) l xs := r.grow (Grow.laid s hp u)
theorem pst_tup {Q : VK} {l : List T} {xs : List V} (s : Sim G ms H S) (q : pst G ms H Q (.t (.tup l)) S) (r : RTs G ms H l xs) : ∀ p, H p = none → Q (.ref p) (upd H p (.tup xs)) := fun p hp =>
  q _ _ _ (Grow.laid s hp _) (s.laid hp _) (.t (.tup (.inl ⟨.inl upd_same, s.fresh hp⟩) (rts_laid s hp r)))
theorem pst_tup' {Q : VK} {l : List T} {xs : List V} {a : Addr} (s : Sim G ms H S) (q : pst G ms H Q (.t (.tup l)) S) (h : TupAt G.K ms H a xs) (r : RTs G ms H l xs) : Q (.ref a) H :=
  q _ _ _ .refl s (.t (.tup h r))
theorem pst_outL {Q : VK} {m : Bool} {l : List T} {xs : List V} (s : Sim G ms H S) (q : outL m l S (pst G ms H Q)) (r : RTs G ms H l xs) : ∀ p, H p = none → Q (.ref p) (upd H p (.lst xs)) := fun p hp => by
  cases m with
  | false => exact q _ _ _ (Grow.laid s hp _) (s.laid hp _) (.t (.lst upd_same (s.fresh hp) (rts_laid s hp r)))
  | true =>
    refine q _ _ _ (Grow.alloc hp _) (s.alloc hp _ (.lst upd_same (r.grow (Grow.alloc hp _)))) (.r ?_)
    rw [← s.len]
    exact nth_app_len
end

/-! ### operators -/
def l2 (G : Gx) (f : D → D → Sto → Post → Prop) : R2 := fun x y H Q => ∃ ms S dx dy, Sim G ms H S ∧ RD G ms H dx x ∧ RD G ms H dy y ∧ f dx dy S (pst G ms H Q)
def opOf : BO → Operator
  | .add => .Add
  | .sub => .Sub
  | .mul => .Mult
  | .fdiv => .FloorDiv
  | .mod => .Mod
  | .pow => .Pow
  | .shl => .LShift
  | .shr => .RShift
  | .band => .BitAnd
section
variable {X : Cx} {G : Gx}
theorem szM_ok {i j : Int} (h : szM i) (k : szM j) : IntMulOk i j := IntMulOk.of_bits (by have : Builtin.Int.intBits i ≤ 1048576 := h; exact this) (by have : Builtin.Int.intBits j ≤ 1048576 := k; exact this)
theorem op_mulX : OpR X (binaryOp .Mult) (rI (fun i j => szM i ∧ szM j) fun i j => .int (i * j)) := opI fun _ _ _ _ _ _ _ hc q => mul_int q (szM_ok hc.1 hc.2)
theorem op_fdivX : OpR X (binaryOp .FloorDiv) (rI (fun _ j => divOk j) fun i j => .int (i.fdiv j)) := opI fun i j _ _ _ _ _ hc q => by
  exact floordiv_int hc.1 q (.inl (PyProof.noPylong_of_log2 hc.2))
theorem two64 : (18446744073709551616 : Nat) = 2 ^ 64 := by decide
theorem bin_ok (hK : X.K = G.K) (m : Bool) (o : BO) : OpR X (binaryOp (opOf o)) (l2 G (binD m o)) := by
  intro pins s σ H x y v u Q I rx ry h
  obtain ⟨ms, S, dx, dy, sm, hx, hy, h⟩ := h
  unfold binD at h
  split at h
  case h_2 => exact h.elim
  rename_i a b ea eb
  have ra := rdT_ok sm hx ea
  have rb := rdT_ok sm hy eb
  have hs : sizeLine = 16777216 := sizeLine_eq
  unfold binT at h
  split at h
  case h_1 i j =>
    exact op_add pins s σ H x y v u Q I rx ry ⟨i, j, ra.int, rb.int, pst_t sm h (.int _)⟩
  case h_2 i j =>
    exact op_add_str pins s σ H x y v u Q I rx ry ⟨i, j, ra.str, rb.str, by rw [hs]; exact h.1, pst_t sm h.2 (.str _)⟩
  case h_3 i j =>
    obtain ⟨a1, xs, rfl, t1, r1⟩ := ra.tup
    obtain ⟨a2, ys, rfl, t2, r2⟩ := rb.tup
    refine op_catA pins s σ H _ _ v u Q I rx ry ⟨a1, a2, xs, ys, rfl, rfl, hK ▸ t1.sq, hK ▸ t2.sq, by rw [hs, ← r1.length, ← r2.length]; exact h.1, fun e => ?_, fun _ e => ?_, fun _ _ => ?_⟩
    · subst e
      cases r1
      exact pst_tup' sm h.2 t2 r2
    · subst e
      cases r2
      rw [List.append_nil] at h
      exact pst_tup' sm h.2 t1 r1
    · exact pst_tup sm h.2 (r1.append r2)
  case h_4 i j =>
    obtain ⟨a1, xs, rfl, t1, r1⟩ := ra.lstE
    obtain ⟨a2, ys, rfl, t2, r2⟩ := rb.lstE
    exact op_cat pins s σ H _ _ v u Q I rx ry ⟨a1, a2, xs, ys, rfl, rfl, t1, t2, by rw [hs, ← r1.length, ← r2.length]; exact h.1, pst_outL sm h.2 (r1.append r2)⟩
  case h_5 i j =>
    exact op_sub pins s σ H x y v u Q I rx ry ⟨i, j, ra.int, rb.int, pst_t sm h (.int _)⟩
  case h_6 i j =>
    exact op_mulX pins s σ H x y v u Q I rx ry ⟨i, j, ra.int, rb.int, h.1, pst_t sm h.2 (.int _)⟩
  case h_7 l k =>
    obtain ⟨a1, xs, rfl, t1, r1⟩ := ra.tup
    obtain ⟨⟨h0, h1, h2, h3⟩, h4⟩ := h
    refine op_repT pins s σ H _ _ v u Q I rx ry ⟨a1, k, xs, rfl, rb.int, hK ▸ t1.sq, fun e => h0 ?_, h1, h2, by rw [← r1.length]; exact h3, pst_tup sm h4 (r1.rep _)⟩
    subst e
    cases r1; rfl
  case h_8 l k =>
    obtain ⟨a1, xs, rfl, t1, r1⟩ := ra.lstE
    obtain ⟨⟨h0, h1, h2⟩, h4⟩ := h
    refine op_rep pins s σ H _ _ v u Q I rx ry ⟨a1, k, xs, rfl, rb.int, t1, by omega, by omega, ?_, pst_outL sm h4 (r1.rep _)⟩
    rw [← r1.length, hs]
    have : l.length * k.toNat ≤ 1000 * 1000 := Nat.mul_le_mul h2 (by omega)
    omega
  case h_9 i j =>
    exact op_fdivX pins s σ H x y v u Q I rx ry ⟨i, j, ra.int, rb.int, h.1, pst_t sm h.2 (.int _)⟩
  case h_10 i j =>
    exact op_modN pins s σ H x y v u Q I rx ry ⟨i, j, ra.int, rb.int, h.1, pst_t sm h.2 (.int _)⟩
  case h_11 i j =>
    exact op_pow pins s σ H x y v u Q I rx ry ⟨i, j, ra.int, rb.int, by unfold CPow; rw [← two64]; exact h.1, pst_t sm h.2 (.int _)⟩
  case h_12 i j =>
    exact op_shl pins s σ H x y v u Q I rx ry ⟨i, j, ra.int, rb.int, by unfold CPow; rw [← two64]; exact h.1, pst_t sm h.2 (.int _)⟩
  case h_13 i j =>
    exact op_shr pins s σ H x y v u Q I rx ry ⟨i, j, ra.int, rb.int, h.1, pst_t sm h.2 (.int _)⟩
  case h_14 i j =>
    exact op_and pins s σ H x y v u Q I rx ry ⟨i, j, ra.int, rb.int, pst_t sm h (.int _)⟩
  case h_15 => exact h.elim
end
end MP

set_option Elab.async false
set_option linter.all false
set_option maxRecDepth 100000
set_option maxHeartbeats 1000000
namespace MP
open PySem L2 PySem.Spec PyProof.Rows
/-! ### == -/
mutual
def T.py : T → PyData
  | .non => .none
  | .bl b => .bool b
  | .int i => .int i
  | .str x => .str x
  | .tup l => .tuple (T.pys l)
  | .lst l => .list (T.pys l)
  | _ => .none
def T.pys : List T → List PyData
  | [] => []
  | x :: r => T.py x :: T.pys r
end
section
variable {G : Gx} {ms : Md} {H : Hp}
mutual
theorem dp_of : ∀ {t : T} {v : V} {n : Nat}, RT G ms H t v → T.okd n t = true → Dp G.K H v t.py
  | _, _, _, .non, _ => .non
  | _, _, _, .bl b, _ => .bl b
  | _, _, _, .int i, _ => .int i
  | _, _, _, .str x, _ => .str x
  | _, _, 0, .tup _ _, h => by simp [T.okd] at h
  | _, _, n + 1, .tup h1 h2, h => by
    rw [T.py]
    exact .tup h1.sq (dps_of h2 (by simpa [T.okd] using h))
  | _, _, 0, .lst _ _ _, h => by simp [T.okd] at h
  | _, _, n + 1, .lst h1 _ h2, h => by
    rw [T.py]
    exact .lst (SqL.of h1) (dps_of h2 (by simpa [T.okd] using h))
  | _, _, n, .dct _ _ _, h => by simp [T.okd] at h
  | _, _, n, .scr _, h => by simp [T.okd] at h
  | _, _, n, .fn _ _, h => by simp [T.okd] at h
theorem dps_of : ∀ {t : List T} {v : List V} {n : Nat}, RTs G ms H t v → T.okds n t = true → DpAll G.K H v (T.pys t)
  | _, _, _, .nil, _ => .nil
  | _, _, n, .cons h1 h2, h => by
    rw [T.pys]
    rw [T.okds, Bool.and_eq_true] at h
    exact .cons (dp_of h1 h.1) (dps_of h2 h.2)
end
theorem dp_rr {t : T} {v : V} {n : Nat} (r : RR G ms H t v) (h : T.okd n t = true) : Dp G.K H v t.py := by
  cases r with
  | t r => exact dp_of r h
  | lst h1 h2 =>
    cases n with
    | zero => simp [T.okd] at h
    | succ n =>
      rw [T.py]
      exact .lst (SqL.of h1) (dps_of h2 (by simpa [T.okd] using h))
  | dct h1 h2 => simp [T.okd] at h
mutual
theorem canLay_of : ∀ {n : Nat} {t : T}, T.okd n t = true → t.py.canLay0 = true ∧ t.py.depth ≤ n
  | n, .non, _ => by simp [T.py, PyData.canLay0, PyData.depth]
  | n, .bl _, _ => by simp [T.py, PyData.canLay0, PyData.depth]
  | n, .int _, _ => by simp [T.py, PyData.canLay0, PyData.depth]
  | n, .str x, h => by
    rw [T.okd] at h
    · exact ⟨by rw [T.py]; exact h, by simp [T.py, PyData.depth]⟩
  | 0, .tup _, h => by simp [T.okd] at h
  | n + 1, .tup l, h => by
    have q := canLays_of (n := n) (t := l) (by simpa [T.okd] using h)
    rw [T.py, PyData.canLay0, PyData.depth]
    exact ⟨q.1, by omega⟩
  | 0, .lst _, h => by simp [T.okd] at h
  | n + 1, .lst l, h => by
    have q := canLays_of (n := n) (t := l) (by simpa [T.okd] using h)
    rw [T.py, PyData.canLay0, PyData.depth]
    exact ⟨q.1, by omega⟩
  | n, .dct _, h => by simp [T.okd] at h
  | n, .scr _, h => by simp [T.okd] at h
  | n, .fn _, h => by simp [T.okd] at h
  | n, .exc _ _, h => by simp [T.okd] at h
theorem canLays_of : ∀ {n : Nat} {t : List T}, T.okds n t = true → PyData.canLayAll0 (T.pys t) = true ∧ PyData.depthAll (T.pys t) ≤ n
  | n, [], _ => by simp [T.pys, PyData.canLayAll0, PyData.depthAll]
  | n, x :: r, h => by
    rw [T.okds, Bool.and_eq_true] at h
    have q := canLay_of h.1
    have q' := canLays_of h.2
    rw [T.pys, PyData.canLayAll0, PyData.depthAll]
    exact ⟨by rw [q.1, q'.1]; rfl, by omega⟩
end
mutual
theorem eqv_of : ∀ {n m : Nat} {t u : T}, T.okd n t = true → T.okd m u = true → PyData.eqv t.py u.py = T.eqb t u
  | n, m, .tup l, .tup l', h, h' => by
    cases n with
    | zero => simp [T.okd] at h
    | succ n =>
      cases m with
      | zero => simp [T.okd] at h'
      | succ m =>
        rw [T.py, T.py, PyData.eqv, T.eqb]
        exact eqvs_of (by simpa [T.okd] using h) (by simpa [T.okd] using h')
  | n, m, .lst l, .lst l', h, h' => by
    cases n with
    | zero => simp [T.okd] at h
    | succ n =>
      cases m with
      | zero => simp [T.okd] at h'
      | succ m =>
        rw [T.py, T.py, PyData.eqv, T.eqb]
        exact eqvs_of (by simpa [T.okd] using h) (by simpa [T.okd] using h')
  | n, m, .non, u, h, h' => by cases u <;> simp [T.py, PyData.eqv, T.eqb, T.okd] at h' ⊢
  | n, m, .bl _, u, h, h' => by cases u <;> simp [T.py, PyData.eqv, T.eqb, T.okd] at h' ⊢
  | n, m, .int _, u, h, h' => by cases u <;> simp [T.py, PyData.eqv, T.eqb, T.okd] at h' ⊢
  | n, m, .str _, u, h, h' => by cases u <;> simp [T.py, PyData.eqv, T.eqb, T.okd] at h' ⊢
  | n, m, .tup _, .non, h, h' | n, m, .tup _, .bl _, h, h' | n, m, .tup _, .int _, h, h' | n, m, .tup _, .str _, h, h' | n, m, .tup _, .lst _, h, h' => by simp [T.py, PyData.eqv, T.eqb]
  | n, m, .lst _, .non, h, h' | n, m, .lst _, .bl _, h, h' | n, m, .lst _, .int _, h, h' | n, m, .lst _, .str _, h, h' | n, m, .lst _, .tup _, h, h' => by simp [T.py, PyData.eqv, T.eqb]
  | n, m, .dct _, u, h, h' | n, m, .scr _, u, h, h' | n, m, .fn _, u, h, h' | n, m, .exc _ _, u, h, h' => by simp [T.okd] at h
  | n, m, .tup _, .dct _, h, h' | n, m, .tup _, .scr _, h, h' | n, m, .tup _, .fn _, h, h' | n, m, .tup _, .exc _ _, h, h' => by simp [T.okd] at h'
  | n, m, .lst _, .dct _, h, h' | n, m, .lst _, .scr _, h, h' | n, m, .lst _, .fn _, h, h' | n, m, .lst _, .exc _ _, h, h' => by simp [T.okd] at h'
theorem eqvs_of : ∀ {n m : Nat} {t u : List T}, T.okds n t = true → T.okds m u = true → PyData.eqvAll (T.pys t) (T.pys u) = T.eqbs t u
  | n, m, [], [], h, h' => by simp [T.pys, PyData.eqvAll, T.eqbs]
  | n, m, [], _ :: _, h, h' => by simp [T.pys, PyData.eqvAll, T.eqbs]
  | n, m, _ :: _, [], h, h' => by simp [T.pys, PyData.eqvAll, T.eqbs]
  | n, m, x :: r, y :: k, h, h' => by
    rw [T.okds, Bool.and_eq_true] at h h'
    rw [T.pys, T.pys, PyData.eqvAll, T.eqbs, eqv_of h.1 h'.1, eqvs_of h.2 h'.2]
end
theorem shaped_of {t : T} (h : T.okd 60 t = true) : SeqAt.shaped t.py = true := by
  have q := canLay_of h
  unfold SeqAt.shaped
  rw [q.1, decide_eq_true (by omega)]; rfl
theorem flat_of {t : T} {v : V} (r : RT G ms H t v) (h : flatT t = true) : flatV v = true := by
  cases r <;> first | rfl | cases h
theorem flats_of : ∀ {l : List T} {xs : List V}, RTs G ms H l xs → l.all flatT = true → xs.all flatV = true
  | _, _, .nil, _ => rfl
  | _, _, .cons h k, e => by
    rw [List.all_cons, Bool.and_eq_true] at e ⊢
    exact ⟨flat_of h e.1, flats_of k e.2⟩
theorem eqV_of {t u : T} {v w : V} (r : RT G ms H t v) (r' : RT G ms H u w) (h : flatT t = true) (h' : flatT u = true) : eqV v w = T.eqb t u := by
  cases r <;> cases r' <;> first | rfl | (cases h; done) | (cases h'; done) | simp [eqV, T.eqb]
theorem inV_of {t : T} {v : V} (r : RT G ms H t v) (h : flatT t = true) : ∀ {l : List T} {xs : List V}, RTs G ms H l xs → l.all flatT = true → inV v xs = l.any fun y => T.eqb y t
  | _, _, .nil, _ => rfl
  | _, _, .cons k ks, e => by
    rw [List.all_cons, Bool.and_eq_true] at e
    unfold inV
    rw [List.any_cons, List.any_cons, eqV_of k r e.1 h]
    congr 1
    exact inV_of r h ks e.2
theorem key_of {t : T} {v : V} {k : Key} (r : RT G ms H t v) (h : keyT t = some k) : v = kV k := by
  cases r <;> simp [keyT] at h <;> subst h <;> rfl
theorem kget_of : ∀ {l : List (Key × T)} {xs : List (Key × V)} {k : Key}, RKs G ms H l xs → (valV xs k = none ∧ kget l k = none) ∨ ∃ v x, valV xs k = some v ∧ kget l k = some x ∧ RT G ms H x v
  | _, _, _, .nil => .inl ⟨rfl, rfl⟩
  | _, _, k, .cons (k := k') (t := t) (v := v) (ts := ts) (vs := vs) h r => by
    by_cases e : k' = k
    · refine .inr ⟨v, t, ?_, ?_, h⟩
      · exact valV_pos e
      · simp [kget, List.find?_cons, e]
    · have e1 : valV ((k', v) :: vs) k = valV vs k := valV_neg e
      have e2 : kget ((k', t) :: ts) k = kget ts k := by simp [kget, List.find?_cons, e]
      rw [e1, e2]
      exact kget_of r
end
def copOf : CO → CmpOp
  | .eq => .Eq
  | .ne => .NotEq
  | .lt => .Lt
  | .le => .LtE
  | .gt => .Gt
  | .ge => .GtE
  | .is => .Is
  | .isn => .IsNot
  | .mem => .In
  | .nmem => .NotIn
section
variable {X : Cx} {G : Gx}
theorem op_in_dct (hu : X.A.units + 1 < cLine) (neg : Bool) : OpR X (compareOp (if neg then .NotIn else .In)) (fun y x H Q => ∃ a o, x = .ref a ∧ DGet H a y o ∧ Q (.bl (if neg then !o.isSome else o.isSome)) H) := by
  intro pins s σ H y x w v Q I ry rx h
  obtain ⟨a, o, rfl, g, q⟩ := h
  cases rx
  cases neg with
  | false => exact d_in hu I g ry fun s' I' => ⟨.bl _, H, I', rfl, q⟩
  | true => exact d_notIn hu I g ry fun s' I' => ⟨.bl _, H, I', rfl, q⟩
theorem isN_eq {ms H} {t : T} {v : V} (r : RR G ms H t v) : decide (v = V.non) = isN t := by
  cases r with
  | t r => cases r <;> first | rfl | (apply decide_eq_false; intro z; cases z)
  | lst _ _ => apply decide_eq_false; intro z; cases z
  | dct _ _ => apply decide_eq_false; intro z; cases z
theorem cmp_ok (hK : X.K = G.K) (hu : X.A.units + 64 < cLine) (o : CO) : OpR X (compareOp (copOf o)) (l2 G (cmpD o)) := by
  intro pins s σ H x y v u Q I rx ry h
  obtain ⟨ms, S, dx, dy, sm, hx, hy, h⟩ := h
  unfold cmpD at h
  split at h
  case h_2 => exact h.elim
  rename_i a b ea eb
  have ra := rdT_ok sm hx ea
  have rb := rdT_ok sm hy eb
  have fin : ∀ {c : Bool}, pst G ms H Q (.t (.bl c)) S → Q (.bl c) H := fun q => pst_t sm q (.bl _)
  cases o with
  | eq =>
    obtain ⟨h1, h2, h⟩ := h
    exact op_eqD hu pins s σ H x y v u Q I rx ry ⟨a.py, b.py, hK ▸ dp_rr ra h1, hK ▸ dp_rr rb h2, shaped_of h1, shaped_of h2, by rw [eqv_of h1 h2]; exact fin h⟩
  | ne =>
    obtain ⟨h1, h2, h⟩ := h
    exact op_neD hu pins s σ H x y v u Q I rx ry ⟨a.py, b.py, hK ▸ dp_rr ra h1, hK ▸ dp_rr rb h2, shaped_of h1, shaped_of h2, by rw [eqv_of h1 h2]; exact fin h⟩
  | lt =>
    simp only [cmpT] at h
    split at h
    · exact op_lt pins s σ H x y v u Q I rx ry ⟨_, _, ra.int, rb.int, fin h⟩
    · exact h.elim
  | le =>
    simp only [cmpT] at h
    split at h
    · exact op_le pins s σ H x y v u Q I rx ry ⟨_, _, ra.int, rb.int, fin h⟩
    · exact h.elim
  | gt =>
    simp only [cmpT] at h
    split at h
    · exact op_gt pins s σ H x y v u Q I rx ry ⟨_, _, ra.int, rb.int, fin h⟩
    · exact h.elim
  | ge =>
    simp only [cmpT] at h
    split at h
    · exact op_ge pins s σ H x y v u Q I rx ry ⟨_, _, ra.int, rb.int, fin h⟩
    · exact h.elim
  | is =>
    simp only [cmpT] at h
    split at h
    · exact op_isBl pins s σ H x y v u Q I rx ry ⟨_, _, ra.bl, rb.bl, by rw [show decide _ = _ from (Bool.beq_eq_decide_eq _ _).symm]; exact fin h⟩
    · exact op_isN pins s σ H x y v u Q I rx ry ⟨rb.non, by rw [isN_eq ra]; exact fin h⟩
    · exact h.elim
  | isn =>
    simp only [cmpT] at h
    split at h
    · exact op_notBl pins s σ H x y v u Q I rx ry ⟨_, _, ra.bl, rb.bl, by rw [show decide _ = _ from (Bool.beq_eq_decide_eq _ _).symm]; exact fin h⟩
    · exact op_notN pins s σ H x y v u Q I rx ry ⟨rb.non, by rw [isN_eq ra]; exact fin h⟩
    · exact h.elim
  | mem =>
    simp only [cmpT] at h
    have flatRT : flatT a = true → RT G ms H a x := fun f => by
      cases ra with
      | t r => exact r
      | lst _ _ => cases f
      | dct _ _ => cases f
    split at h
    · exact op_in_str pins s σ H x y v u Q I rx ry ⟨_, _, ra.str, rb.str, fin h⟩
    · obtain ⟨a2, ys, rfl, t2, r2⟩ := rb.tup
      obtain ⟨⟨f1, f2⟩, h⟩ := h
      exact op_in_seq pins s σ H x _ v u Q I rx ry ⟨a2, ys, rfl, .inr (hK ▸ t2.sq), flat_of (flatRT f1) f1, flats_of r2 f2, by rw [inV_of (flatRT f1) f1 r2 f2]; exact fin h⟩
    · obtain ⟨a2, ys, rfl, t2, r2⟩ := rb.lstE
      obtain ⟨⟨f1, f2⟩, h⟩ := h
      exact op_in_seq pins s σ H x _ v u Q I rx ry ⟨a2, ys, rfl, .inl (SqL.of t2), flat_of (flatRT f1) f1, flats_of r2 f2, by rw [inV_of (flatRT f1) f1 r2 f2]; exact fin h⟩
    · obtain ⟨a2, ys, rfl, t2, r2⟩ := rb.dctE
      split at h
      · rename_i kk ek
        have rx' : x = kV kk := by
          cases ra with
          | t r => exact key_of r ek
          | lst _ _ => simp [keyT] at ek
          | dct _ _ => simp [keyT] at ek
        subst rx'
        refine op_in_dct (by omega) false pins s σ H _ _ v u Q I rx ry ⟨a2, valV ys kk, rfl, DGet.k t2, ?_⟩
        rcases kget_of (k := kk) r2 with ⟨e1, e2⟩ | ⟨v', x', e1, e2, _⟩
        · rw [e1]; rw [e2] at h; exact fin h
        · rw [e1]; rw [e2] at h; exact fin h
      · exact h.elim
    · exact h.elim
  | nmem =>
    simp only [cmpT] at h
    have flatRT : flatT a = true → RT G ms H a x := fun f => by
      cases ra with
      | t r => exact r
      | lst _ _ => cases f
      | dct _ _ => cases f
    split at h
    · exact op_notin_str pins s σ H x y v u Q I rx ry ⟨_, _, ra.str, rb.str, fin h⟩
    · obtain ⟨a2, ys, rfl, t2, r2⟩ := rb.tup
      obtain ⟨⟨f1, f2⟩, h⟩ := h
      exact op_notIn_seq pins s σ H x _ v u Q I rx ry ⟨a2, ys, rfl, .inr (hK ▸ t2.sq), flat_of (flatRT f1) f1, flats_of r2 f2, by rw [inV_of (flatRT f1) f1 r2 f2]; exact fin h⟩
    · obtain ⟨a2, ys, rfl, t2, r2⟩ := rb.lstE
      obtain ⟨⟨f1, f2⟩, h⟩ := h
      exact op_notIn_seq pins s σ H x _ v u Q I rx ry ⟨a2, ys, rfl, .inl (SqL.of t2), flat_of (flatRT f1) f1, flats_of r2 f2, by rw [inV_of (flatRT f1) f1 r2 f2]; exact fin h⟩
    · obtain ⟨a2, ys, rfl, t2, r2⟩ := rb.dctE
      split at h
      · rename_i kk ek
        have rx' : x = kV kk := by
          cases ra with
          | t r => exact key_of r ek
          | lst _ _ => simp [keyT] at ek
          | dct _ _ => simp [keyT] at ek
        subst rx'
        refine op_in_dct (by omega) true pins s σ H _ _ v u Q I rx ry ⟨a2, valV ys kk, rfl, DGet.k t2, ?_⟩
        rcases kget_of (k := kk) r2 with ⟨e1, e2⟩ | ⟨v', x', e1, e2, _⟩
        · rw [e1]; rw [e2] at h; exact fin h
        · rw [e1]; rw [e2] at h; exact fin h
      · exact h.elim
    · exact h.elim
end
end MP

set_option Elab.async false
set_option linter.all false
set_option maxRecDepth 100000
set_option maxHeartbeats 1000000
namespace HT
open PySem PySem.Spec PyProof.Rows L2
section
variable {prog : Program} {w : World} {A : Around} {E : Value → Shared → Prop} {s : Shared}
theorem sliceApplied_rev {sl : Addr} {vl vu vs : Value} {n : Nat} {Q : Int × Int × Nat → Shared → Prop} (hs : s.heap.IsSliceOf sl vl vu vs) (pl : IsPart vl none) (pu : IsPart vu none) (ps : IsPart vs (some (-1)))
    (h : Q ((n : Int) - 1, -1, n) s) : wpAny (model prog w) A (Builtin.Slice.sliceApplied (.ref sl) (pure (n : Int))) Q E s := by
  obtain ⟨os, hos, hcs, hds⟩ := id hs
  unfold Builtin.Slice.sliceApplied Builtin.Slice.sliceFields
  refine wpAny_bind (wpAny_bind (wpAny_field hos hds (x := vl) rfl (wpAny_bind (wpAny_field hos hds (x := vu) rfl (wpAny_bind (wpAny_field hos hds (x := vs) rfl (wpAny_pure ?_)))))))
  refine wpAny_bind (slicePart_ ps ?_)
  show wpAny _ _ (if ((-1 : Int) == 0) = true then _ else _) _ _ s
  rw [if_neg (by decide)]
  refine wpAny_bind (slicePart_ pl (wpAny_bind (slicePart_ pu (wpAny_bind (wpAny_pure ?_)))))
  show wpAny _ _ (match Builtin.Slice.sliceAdjust none none (-1) (n : Int) with | (lo, hi) => pure (lo, (-1 : Int), Builtin.Slice.slicePlaces lo hi (-1))) _ _ s
  show wpAny _ _ (pure ((n : Int) - 1, (-1 : Int), Builtin.Slice.slicePlaces ((n : Int) - 1) (-1) (-1))) _ _ s
  have e : Builtin.Slice.slicePlaces ((n : Int) - 1) (-1) (-1) = n := by
    unfold Builtin.Slice.slicePlaces
    rw [if_neg (by decide), show (- -1 : Int) = 1 by decide, Int.ediv_one]
    split <;> omega
  rw [e]
  exact wpAny_pure h
theorem pick_rev (items : Array Value) : ((List.range items.size).filterMap fun (m : Nat) => items[(((items.size : Nat) : Int) - 1 + (m : Int) * -1).toNat]?).toArray = items.toList.reverse.toArray := by
  have e : ((List.range items.size).filterMap fun (m : Nat) => items[(((items.size : Nat) : Int) - 1 + (m : Int) * -1).toNat]?) = ((List.range items.size).map (fun k => items.size - 1 - k)).filterMap (items[·]?) := by
    rw [List.filterMap_map]
    have go : ∀ l : List Nat, (∀ m ∈ l, m < items.size) → l.filterMap (fun (m : Nat) => items[(((items.size : Nat) : Int) - 1 + (m : Int) * -1).toNat]?) = l.filterMap ((items[·]?) ∘ fun k => items.size - 1 - k) := by
      intro l
      induction l with
      | nil => intro _; rfl
      | cons m r ih =>
        intro h
        have h1 := h m List.mem_cons_self
        rw [List.filterMap_cons, List.filterMap_cons, ih fun x hx => h x (List.mem_cons_of_mem _ hx)]
        have e : (((items.size : Nat) : Int) - 1 + (m : Int) * -1).toNat = items.size - 1 - m := by omega
        rw [e]
        rfl
    exact go _ fun m hm => List.mem_range.mp hm
  rw [e, PySem.W.krv_range, List.filterMap_reverse, PySem.W.krv_all]
theorem getItem_tuple_rev {t sl : Addr} {items : Array Value} {vl vu vs : Value} {Q : Value → Shared → Prop} (ht : IsTup s.heap t items) (hs : s.heap.IsSliceOf sl vl vu vs) (pl : IsPart vl none) (pu : IsPart vu none) (ps : IsPart vs (some (-1)))
    (h : Q (.ref s.heap.objs.size) { s with heap := s.heap.push { cls := .type "tuple", data := .seq items.toList.reverse.toArray } })
    (hsz : items.size ≤ sizeLine) : wpAny (model prog w) A (getItem (.ref t) (.ref sl)) Q E s := by
  have htake : sizeOk (.seq items.toList.reverse.toArray) := by
    show items.toList.reverse.toArray.size ≤ sizeLine
    rw [List.size_toArray, List.length_reverse, Array.length_toList]
    exact hsz
  obtain ⟨os, hos, hcs, hds⟩ := id hs
  have hTs : s.TypeIs (.ref sl) "slice" := ⟨os, hos, hcs⟩
  unfold getItem
  try with_reducible refine wpAny_holding ?_
  first | refine wpAny_bind (wpAny_pure ?_) | skip
  refine wpAny_bind (wpAny_sequenceKey ht.typeIs (by decide) ?_)
  refine wpAny_bind (wpAny_callSpecial?_slot (name := Str.ofString "__getitem__") ht.typeIs PyProof.Rows.slot_tuple_getitem
    (wpAny_call_entry PyProof.Rows.slot_tuple_getitem ht.typeIs entry_tuple_getitem ?_ (args_tuple_getitem _ _)))
  show wpAny _ _ (Builtin.Tuple.tupleItemsOf (.ref t) >>= _) _ _ s
  refine wpAny_bind (tupleItemsOf_ ht ?_)
  refine wpAny_bind (wpAny_typeOf hTs ?_)
  rw [if_pos (by decide)]
  refine wpAny_bind (sliceApplied_rev hs pl pu ps ?_)
  have hno : ¬ (((((items.size : Nat) : Int) - 1) == 0 && (-1 : Int) == 1 && items.size == items.size) = true) := by
    intro q
    rw [Bool.and_eq_true, Bool.and_eq_true] at q
    exact absurd q.1.2 (by decide)
  show wpAny _ _ (if ((((items.size : Nat) : Int) - 1) == 0 && (-1 : Int) == 1 && items.size == items.size) = true then _ else _) _ _ s
  rw [if_neg hno, pick_rev]
  first
    | exact wpAny_bind (m := Builtin.Tuple.tupleExact _) (wpAny_newObj_type (wpAny_pure ⟨_, rfl, wpAny_pure h⟩) htake)
    | exact wpAny_bind (m := Builtin.Tuple.tupleExact _) (wpAny_newObj_type (wpAny_bind (wpAny_pure (wpAny_pure ⟨_, rfl, wpAny_pure h⟩))) htake)
    | exact wpAny_bind (wpAny_bind (m := Builtin.Tuple.tupleExact _) (wpAny_newObj_type (wpAny_pure (wpAny_pure ⟨_, rfl, wpAny_pure h⟩)) htake))
    | exact wpAny_bind (wpAny_bind (m := Builtin.Tuple.tupleExact _) (wpAny_newObj_type (wpAny_pure ⟨_, rfl, wpAny_pure h⟩) htake))
end
end HT
namespace L2
open PySem PySem.Spec PyProof.Rows
section
variable {X : Cx}
/-- e[::-1] of a list or a tuple -/
def tRev (K : PySem.W.Frag) (te : TE) : TE := fun σ H Q => te σ H fun x H1 => ∃ a xs, x = .ref a ∧ ((SqL K H1 a xs ∧ ∀ p, H1 p = none → Q (.ref p) (upd H1 p (.lst xs.reverse))) ∨ (SqT K H1 a xs ∧ ∀ p, H1 p = none → Q (.ref p) (upd H1 p (.tup xs.reverse))))
theorem pe_rev {e : Expr} {te : TE} {k : Nat} {p1 p2 p3 pos : Pos} (he : PE X e te) : PE X (.Subscript e (.Slice none none (some (.UnaryOp .USub (.Constant (.int 1) k p1) p2)) p3) pos) (tRev X.K te) := by
  refine ⟨fun pins s σ H Q I h => ?_⟩
  refine Subscript_ (thn (he.run pins s σ H _ I h) fun v s1 ⟨x, H1, I1, r1, q1⟩ => ?_)
  obtain ⟨a, xs, ex, q⟩ := q1
  subst ex
  cases r1
  have hst : PO X (some (.UnaryOp .USub (.Constant (.int 1) k p1) p2)) (tPart (tUn (rU fun i => .int (-i)) (tC (.int 1)))) := po_some (pe_un un_neg pe_int)
  refine wpAny_Slice (thn (po_none.run pins s1 σ H1 (fun o H2 => o = none ∧ H2 = H1) I1 ⟨rfl, rfl⟩) fun vl s2 ⟨l, H2, I2, pl, el, e2⟩ => ?_)
  subst el e2
  refine thn (po_none.run pins s2 σ H2 (fun o H3 => o = none ∧ H3 = H2) I2 ⟨rfl, rfl⟩) fun vu s3 ⟨u, H3, I3, pu, eu, e3⟩ => ?_
  subst eu e3
  refine thn (hst.run pins s3 σ H3 (fun o H4 => o = some (-1) ∧ H4 = H3) I3 ⟨1, rfl, -1, rfl, rfl, rfl⟩) fun vs s4 ⟨o, H4, I4, ps, eo, e4⟩ => ?_
  subst eo e4
  have I5 : Inv X pins σ H4 { s4 with heap := s4.heap.push { cls := .type "slice", data := .fields #[vl, vu, vs] } } := I4.kept (t' := s4.toks) fun b ob q => Heap.get?_push_of_some _ q
  rcases q with ⟨hx, q⟩ | ⟨hx, q⟩
  · obtain ⟨its, r, ht, hz⟩ := I5.list hx
    have hlen := r.length
    show wpAny (model X.prog X.w) X.A (subscriptTail e (.Slice none none (some (.UnaryOp .USub (.Constant (.int 1) k p1) p2)) p3) (.ref a) (.ref s4.heap.objs.size)) (EP X pins σ Q) X.xe { s4 with heap := s4.heap.push { cls := .type "slice", data := .fields #[vl, vu, vs] } }
    refine tail_any (ops := [.ref a, .ref s4.heap.objs.size]) ht.isList.typeIs (PySem.slot_list_getitem.lookup) ?_ (by with_unfolding_all rfl)
    refine wpAny_getItem_list_slice ht.isList (Heap.IsSliceOf.new _ vl vu vs) pl pu ps (by decide) ?_ (by rw [List.size_toArray]; omega)
    rw [PySem.W.krv_pick]
    refine ⟨.ref _, _, I5.laid (t' := s4.toks) (o := .lst xs.reverse) (fun b ob q => Heap.get?_push_of_some _ q) (Nat.le_refl _) ?_, rfl, q _ (I5.hok.fresh (Nat.le_refl _))⟩
    exact ⟨by rw [List.length_reverse]; exact hz, _, 0, r.reverse, Heap.get?_push_size _ rfl⟩
  · obtain ⟨its, r, ht, hz⟩ := I5.tuple hx
    have hlen := r.length
    show wpAny (model X.prog X.w) X.A (subscriptTail e (.Slice none none (some (.UnaryOp .USub (.Constant (.int 1) k p1) p2)) p3) (.ref a) (.ref s4.heap.objs.size)) (EP X pins σ Q) X.xe { s4 with heap := s4.heap.push { cls := .type "slice", data := .fields #[vl, vu, vs] } }
    refine tail_any (ops := [.ref a, .ref s4.heap.objs.size]) ht.typeIs (PyProof.Rows.slot_tuple_getitem.lookup) ?_ (by with_unfolding_all rfl)
    refine HT.getItem_tuple_rev ht (Heap.IsSliceOf.new _ vl vu vs) pl pu ps ?_ (by rw [List.size_toArray]; omega)
    refine ⟨.ref _, _, I5.laid (t' := s4.toks) (o := .tup xs.reverse) (fun b ob q => Heap.get?_push_of_some _ q) (Nat.le_refl _) ?_, rfl, q _ (I5.hok.fresh (Nat.le_refl _))⟩
    exact ⟨by rw [List.length_reverse]; exact hz, _, r.reverse, by
      have z := IsTup.new { s4 with heap := s4.heap.push { cls := .type "slice", data := .fields #[vl, vu, vs] } }.heap its.reverse.toArray
      simpa using z⟩
end
end L2
namespace MP
open PySem L2 PySem.Spec PyProof.Rows
section
variable {X : Cx} {G : Gx}
theorem atI_of {ms H} {l : List T} {xs : List V} (r : RTs G ms H l xs) {i : Int} {x : T} (h : atI l i = some x) : ∃ v, atI xs i = some v ∧ RT G ms H x v := by
  unfold atI at *
  rw [← r.length]
  cases e : ixN l.length i with
  | none => rw [e] at h; cases h
  | some j =>
    rw [e] at h
    obtain ⟨v, h1, h2⟩ := r.get (n := j) h
    exact ⟨v, h1, h2⟩
theorem atID_of {ms H} {l : List D} {xs : List V} (r : RDs G ms H l xs) {i : Int} {x : D} (h : atI l i = some x) : ∃ v, atI xs i = some v ∧ RD G ms H x v := by
  unfold atI at *
  rw [← r.length]
  cases e : ixN l.length i with
  | none => rw [e] at h; cases h
  | some j =>
    rw [e] at h
    obtain ⟨v, h1, h2⟩ := r.get (n := j) h
    exact ⟨v, h1, h2⟩
/-- a dict's item as an index -/
theorem ix_dct (hu : X.A.units + 1 < cLine) : IxR X (fun x y H Q => ∃ a v, x = .ref a ∧ DGet H a y (some v) ∧ Q v H) := by
  intro value slice pins s σ H x y v i Q I rx ry h hs
  obtain ⟨a, w, rfl, g, q⟩ := h
  cases rx
  exact tail_any (ops := [.ref a, i]) (dict_typeIs I g) PySem.F.slot_dict_getitem.lookup (d_getItem hu I g ry fun w' s' I' r => ⟨w, H, I', r, q⟩) hs
theorem ix_ok (hK : X.K = G.K) (hu : X.A.units + 1 < cLine) : IxR X (l2 G ixD) := by
  intro value slice pins s σ H x y v u Q I rx ry h hss
  obtain ⟨ms, S, dx, dy, sm, hx, hy, h⟩ := h
  have hs : sizeLine = 16777216 := sizeLine_eq
  have int_of : ∀ {i : Int} {v : V}, RD G ms H (.t (.int i)) v → v = .int i := fun h => by cases h with | t h => cases h; rfl
  unfold ixD at h
  split at h
  · rename_i l i
    cases hx with | t hx => cases hx with | tup t1 r1 =>
    split at h
    · rename_i w e
      obtain ⟨w', e', r'⟩ := atI_of r1 e
      exact ix_tup value slice pins s σ H _ y v u Q I rx ry ⟨_, _, i, w', rfl, int_of hy, hK ▸ t1.sq, e', pst_t sm h r'⟩ hss
    · exact h.elim
  · rename_i l i
    cases hx with | t hx => cases hx with | lst t1 _ r1 =>
    split at h
    · rename_i w e
      obtain ⟨w', e', r'⟩ := atI_of r1 e
      exact ix_list value slice pins s σ H _ y v u Q I rx ry ⟨_, _, i, w', rfl, int_of hy, SqL.of t1, e', pst_t sm h r'⟩ hss
    · exact h.elim
  · rename_i z i
    cases hx with | t hx => cases hx with | str _ =>
    obtain ⟨h0, h⟩ := h
    split at h
    · rename_i c e
      exact ix_str value slice pins s σ H _ y v u Q I rx ry ⟨z, i, c, rfl, int_of hy, by rw [hs]; exact h0, e, pst_t sm h (.str _)⟩ hss
    · exact h.elim
  · rename_i l x
    cases hx with | t hx => cases hx with | dct t1 _ r1 =>
    cases hy with | t hy =>
    split at h
    · rename_i k ek
      have := key_of hy ek
      subst this
      split at h
      · rename_i w e
        rcases kget_of (k := k) r1 with ⟨_, e2⟩ | ⟨v', x', e1, e2, r⟩
        · rw [e] at e2; cases e2
        · rw [e] at e2; cases e2
          exact ix_dct hu value slice pins s σ H _ _ v u Q I rx ry ⟨_, v', rfl, by rw [← e1]; exact DGet.k t1, pst_t sm h r⟩ hss
      · exact h.elim
    · exact h.elim
  · rename_i n x
    cases hx with | r hx =>
    cases hy with | t hy =>
    split at h
    · rename_i l e0
      obtain ⟨a, ea, ro⟩ := sm.ob _ _ e0
      rw [hx] at ea; cases ea
      cases ro with | lst t1 r1 =>
      split at h
      · rename_i i
        split at h
        · rename_i w e
          obtain ⟨w', e', r'⟩ := atI_of r1 e
          exact ix_list value slice pins s σ H _ y v u Q I rx ry ⟨_, _, i, w', rfl, int_of (.t hy), SqL.of t1, e', pst_t sm h r'⟩ hss
        · exact h.elim
      · exact h.elim
    · rename_i l e0
      obtain ⟨a, ea, ro⟩ := sm.ob _ _ e0
      rw [hx] at ea; cases ea
      cases ro with | lsD t1 r1 =>
      split at h
      · rename_i i
        split at h
        · rename_i w e
          obtain ⟨w', e', r'⟩ := atID_of r1 e
          exact ix_list value slice pins s σ H _ y v u Q I rx ry ⟨_, _, i, w', rfl, int_of (.t hy), SqL.of t1, e', h _ _ _ .refl sm r'⟩ hss
        · exact h.elim
      · exact h.elim
    · rename_i l e0
      obtain ⟨a, ea, ro⟩ := sm.ob _ _ e0
      rw [hx] at ea; cases ea
      cases ro with | dct t1 r1 =>
      split at h
      · rename_i k ek
        have := key_of hy ek
        subst this
        split at h
        · rename_i w e
          rcases kget_of (k := k) r1 with ⟨_, e2⟩ | ⟨v', x', e1, e2, r⟩
          · rw [e] at e2; cases e2
          · rw [e] at e2; cases e2
            exact ix_dct hu value slice pins s σ H _ _ v u Q I rx ry ⟨_, v', rfl, by rw [← e1]; exact DGet.k t1, pst_t sm h r⟩ hss
        · exact h.elim
      · exact h.elim
    · exact h.elim
  · exact h.elim
theorem cut_of {ms H} {l : List T} {xs : List V} (r : RTs G ms H l xs) (lo hi : Option Int) : RTs G ms H (cutL l lo hi) (cutV xs lo hi) := by
  unfold cutL cutV
  rw [← r.length]
  exact (r.drop _).take _
theorem cutV_ints (ns : List Int) (lo hi : Option Int) : cutV (ns.map V.int) lo hi = (cutL ns lo hi).map V.int := by
  unfold cutL cutV
  rw [List.length_map, List.map_take, List.map_drop]
theorem cutL_whole {ms H} {l : List T} {xs : List V} (r : RTs G ms H l xs) {lo hi : Option Int} (h : HT.sIx xs.length 0 lo = 0 ∧ HT.sIx xs.length xs.length hi = xs.length) : cutL l lo hi = l := by
  unfold cutL
  rw [r.length, h.1, h.2, List.drop_zero, Nat.sub_zero, ← r.length, List.take_length]
def lsl (G : Gx) (m : Bool) : V → Option Int → Option Int → Hp → VK → Prop := fun x lo hi H Q => ∃ ms S d, Sim G ms H S ∧ RD G ms H d x ∧ slD m d lo hi S (pst G ms H Q)
theorem sl_ok (hK : X.K = G.K) (m : Bool) : SlR X (lsl G m) := by
  intro pins s σ H x v vl vu lo hi sl Q I rx hs pl pu h
  obtain ⟨ms, S, d, sm, hx, h⟩ := h
  unfold slD at h
  have hz : sizeLine = 16777216 := sizeLine_eq
  split at h
  · rename_i l e
    obtain ⟨a, xs, rfl, t1, r1⟩ := (rdT_ok sm hx e).tup
    refine sl_tupA pins s σ H _ v vl vu lo hi sl Q I rx hs pl pu ⟨a, xs, rfl, hK ▸ t1.sq, fun hw => ?_, fun _ => pst_tup sm h (cut_of r1 lo hi)⟩
    rw [cutL_whole r1 hw] at h
    exact pst_tup' sm h t1 r1
  · rename_i l e
    obtain ⟨a, xs, rfl, t1, r1⟩ := (rdT_ok sm hx e).lstE
    exact sl_list pins s σ H _ v vl vu lo hi sl Q I rx hs pl pu ⟨a, xs, rfl, SqL.of t1, pst_outL sm h (cut_of r1 lo hi)⟩
  · rename_i l e
    obtain ⟨a, rfl, t1⟩ := (rdT_ok sm hx e).scr
    exact sl_list pins s σ H _ v vl vu lo hi sl Q I rx hs pl pu ⟨a, _, rfl, hK ▸ t1.sq, by rw [cutV_ints]; exact pst_outL sm h (RTs.ints _)⟩
  · rename_i z e
    exact sl_str pins s σ H _ v vl vu lo hi sl Q I rx hs pl pu ⟨z, (rdT_ok sm hx e).str, by rw [hz]; exact h.1, pst_t sm h.2 (.str _)⟩
  · exact h.elim
end
end MP

set_option Elab.async false
set_option linter.all false
set_option maxRecDepth 100000
set_option maxHeartbeats 1000000
namespace MP
open PySem L2 PySem.Spec PyProof.Rows
/-! ### built-ins by name -/
def lbi (G : Gx) (m : Bool) (b : Bi) : List V → Hp → VK → Prop := fun xs H Q => ∃ ms S ds, Sim G ms H S ∧ RDs G ms H ds xs ∧ biD m b ds S (pst G ms H Q)
def biV : Bi → Value
  | .len => .builtin "len"
  | .abs => .builtin "abs"
  | .min2 => .builtin "min"
  | .max2 => .builtin "max"
  | .min1 => .builtin "min"
  | .max1 => .builtin "max"
  | .sum => .builtin "sum"
  | .all => .builtin "all"
  | .any => .builtin "any"
  | .sorted => .builtin "sorted"
  | .divmod => .builtin "divmod"
  | .list => .type "list"
  | .tuple => .type "tuple"
  | .int => .type "int"
  | .str => .type "str"
  | .dict => .type "dict"
section
variable {X : Cx} {G : Gx}
theorem RD.intE {ms H} {i : Int} {v : V} (h : RD G ms H (.t (.int i)) v) : v = .int i := by cases h with | t h => cases h; rfl
theorem RDs.one {ms H} {d : D} {xs : List V} (h : RDs G ms H [d] xs) : ∃ v, xs = [v] ∧ RD G ms H d v := by
  cases h with | cons h r => cases r; exact ⟨_, rfl, h⟩
theorem RDs.two {ms H} {d e : D} {xs : List V} (h : RDs G ms H [d, e] xs) : ∃ v w, xs = [v, w] ∧ RD G ms H d v ∧ RD G ms H e w := by
  cases h with | cons h r => cases r with | cons h' r => cases r; exact ⟨_, _, rfl, h, h'⟩
theorem RDs.zero {ms H} {xs : List V} (h : RDs G ms H [] xs) : xs = [] := by cases h; rfl
theorem call_str_intX : CallR X (.type "str") (fun xs H Q => ∃ i, xs = [.int i] ∧ i.natAbs.log2 < 1920 ∧ Q (.str (Str.ofString (toString i))) H) := call_str_int
theorem divP_of {i j : Int} (h : 0 < j ∧ j.natAbs.log2 < 9000) : CDivP i j := ⟨h.1, PyProof.noPylong_of_log2 h.2⟩
theorem bi_ok (hK : X.K = G.K) (hc : X.calm = true) (m : Bool) (b : Bi) : CallR X (biV b) (lbi G m b) := by
  intro pins s σ H xs us Q I r h
  obtain ⟨ms, S, ds, sm, hx, h⟩ := h
  have hz : sizeLine = 16777216 := sizeLine_eq
  unfold biD at h
  split at h
  -- len
  · obtain ⟨v, rfl, hv⟩ := hx.one
    split at h
    · rename_i l e
      obtain ⟨a, xs, rfl, t1, r1⟩ := (rdT_ok sm hv e).tup
      exact call_len_seq pins s σ H _ us Q I r ⟨a, xs, rfl, .inr (hK ▸ t1.sq), by rw [← r1.length]; exact pst_t sm h (.int _)⟩
    · rename_i l e
      obtain ⟨a, xs, rfl, t1, r1⟩ := (rdT_ok sm hv e).lstE
      exact call_len_seq pins s σ H _ us Q I r ⟨a, xs, rfl, .inl (SqL.of t1), by rw [← r1.length]; exact pst_t sm h (.int _)⟩
    · rename_i l e
      obtain ⟨a, rfl, t1⟩ := (rdT_ok sm hv e).scr
      exact call_len_seq pins s σ H _ us Q I r ⟨a, _, rfl, .inl (hK ▸ t1.sq), by rw [List.length_map]; exact pst_t sm h (.int _)⟩
    · rename_i z e
      exact call_len_str pins s σ H _ us Q I r ⟨z, by rw [(rdT_ok sm hv e).str], by rw [hz]; exact h.1, pst_t sm h.2 (.int _)⟩
    · exact h.elim
  -- abs
  · rename_i i
    obtain ⟨v, rfl, hv⟩ := hx.one
    refine call_abs pins s σ H _ us Q I r ⟨i, by rw [hv.intE], ?_⟩
    have e : (if i < 0 then -i else i) = (i.natAbs : Int) := by split <;> omega
    rw [e]
    exact pst_t sm h (.int _)
  -- min2
  · rename_i i j
    obtain ⟨v, w, rfl, hv, hw⟩ := hx.two
    exact call_min2 hc pins s σ H _ us Q I r ⟨i, j, by rw [hv.intE, hw.intE], pst_t sm h (.int _)⟩
  · rename_i i j
    obtain ⟨v, w, rfl, hv, hw⟩ := hx.two
    exact call_max2 hc pins s σ H _ us Q I r ⟨i, j, by rw [hv.intE, hw.intE], pst_t sm h (.int _)⟩
  -- sum
  · obtain ⟨v, rfl, hv⟩ := hx.one
    split at h
    · rename_i l e
      obtain ⟨a, xs, rfl, t1, r1⟩ := rdL_ok sm hv e
      split at h
      · rename_i ns e2
        have e3 := asInts_eq e2
        subst e3
        rw [r1.ints_of] at t1
        exact cr_sum hc pins s σ H _ us Q I r ⟨a, ns, rfl, SqL.of t1, pst_t sm h (.int _)⟩
      · exact h.elim
    · exact h.elim
  -- all
  · obtain ⟨v, rfl, hv⟩ := hx.one
    split at h
    · rename_i l e
      obtain ⟨a, xs, rfl, t1, r1⟩ := rdL_ok sm hv e
      split at h
      · rename_i ns e2
        have e3 := asBls_eq e2
        subst e3
        rw [r1.bls_of] at t1
        exact cr_all hc pins s σ H _ us Q I r ⟨a, ns, rfl, SqL.of t1, pst_t sm h (.bl _)⟩
      · exact h.elim
    · exact h.elim
  -- any
  · obtain ⟨v, rfl, hv⟩ := hx.one
    split at h
    · rename_i l e
      obtain ⟨a, xs, rfl, t1, r1⟩ := rdL_ok sm hv e
      split at h
      · rename_i ns e2
        have e3 := asBls_eq e2
        subst e3
        rw [r1.bls_of] at t1
        exact cr_any hc pins s σ H _ us Q I r ⟨a, ns, rfl, SqL.of t1, pst_t sm h (.bl _)⟩
      · exact h.elim
    · exact h.elim
  -- sorted
  · obtain ⟨v, rfl, hv⟩ := hx.one
    split at h
    · rename_i l e
      obtain ⟨a, xs, rfl, t1, r1⟩ := rdL_ok sm hv e
      split at h
      · rename_i ns e2
        have e3 := asInts_eq e2
        subst e3
        rw [r1.ints_of] at t1
        exact cr_sorted pins s σ H _ us Q I r ⟨a, ns, rfl, SqL.of t1, h.1, fun ns' p h1 h2 hp => pst_outL sm (h.2 ns' h1 h2) (RTs.ints _) p hp⟩
      · exact h.elim
    · exact h.elim
  -- divmod
  · rename_i i j
    obtain ⟨v, w, rfl, hv, hw⟩ := hx.two
    exact call_divmodW pins s σ H _ us Q I r ⟨i, j, by rw [hv.intE, hw.intE], divP_of h.1, pst_tup sm h.2 (.cons (.int _) (.cons (.int _) .nil))⟩
  -- list
  · obtain ⟨v, rfl, hv⟩ := hx.one
    split at h
    · rename_i l e
      obtain ⟨a, xs, rfl, t1, r1⟩ := (rdT_ok sm hv e).tup
      exact call_list_of pins s σ H _ us Q I r ⟨a, xs, rfl, .inr (hK ▸ t1.sq), pst_outL sm h r1⟩
    · rename_i l e
      obtain ⟨a, xs, rfl, t1, r1⟩ := (rdT_ok sm hv e).lstE
      exact call_list_of pins s σ H _ us Q I r ⟨a, xs, rfl, .inl (SqL.of t1), pst_outL sm h r1⟩
    · exact h.elim
  -- tuple
  · obtain ⟨v, rfl, hv⟩ := hx.one
    split at h
    · rename_i l e
      obtain ⟨a, xs, rfl, t1, r1⟩ := (rdT_ok sm hv e).tup
      exact call_tuple_of pins s σ H _ us Q I r ⟨a, xs, rfl, .inr ⟨hK ▸ t1.sq, pst_tup' sm h t1 r1⟩⟩
    · rename_i l e
      obtain ⟨a, xs, rfl, t1, r1⟩ := (rdT_ok sm hv e).lstE
      exact call_tuple_of pins s σ H _ us Q I r ⟨a, xs, rfl, .inl ⟨SqL.of t1, pst_tup sm h r1⟩⟩
    · exact h.elim
  -- int
  · obtain ⟨v, rfl, hv⟩ := hx.one
    cases hv with | t hv =>
    split at h
    · cases hv
      exact call_int1 pins s σ H _ us Q I r (.inl ⟨_, rfl, pst_t sm h (.int _)⟩)
    · cases hv
      exact call_int1 pins s σ H _ us Q I r (.inr ⟨_, rfl, pst_t sm h (.int _)⟩)
    · cases hv
      obtain ⟨h0, h⟩ := h
      split at h
      · rename_i n e
        exact call_int_str pins s σ H _ us Q I r ⟨_, n, rfl, e, h0, pst_t sm h (.int _)⟩
      · exact h.elim
    · exact h.elim
  -- str
  · rename_i i
    obtain ⟨v, rfl, hv⟩ := hx.one
    exact call_str_intX pins s σ H _ us Q I r ⟨i, by rw [hv.intE], h.1, pst_t sm h.2 (.str _)⟩
  · exact h.elim
end
end MP

set_option Elab.async false
set_option linter.all false
set_option maxRecDepth 100000
set_option maxHeartbeats 1000000
namespace MP
open PySem L2 PySem.Spec PyProof.Rows
/-! ### built-in methods -/
def lme (G : Gx) (b : Me) : V → List V → Hp → VK → Prop := fun x xs H Q => ∃ ms S d ds, Sim G ms H S ∧ RD G ms H d x ∧ RDs G ms H ds xs ∧ meD b d ds S (pst G ms H Q)
def meTy : Me → String
  | .partition => "str"
  | .isdigit => "str"
  | .get => "dict"
  | _ => "list"
def meNm : Me → Str
  | .append => "append"
  | .extend => "extend"
  | .insert => "insert"
  | .pop => "pop"
  | .popAt => "pop"
  | .remove => "remove"
  | .index => "index"
  | .count => "count"
  | .partition => "partition"
  | .isdigit => "isdigit"
  | .get => "get"
def meId : Me → String
  | .append => "list.append"
  | .extend => "list.extend"
  | .insert => "list.insert"
  | .pop => "list.pop"
  | .popAt => "list.pop"
  | .remove => "list.remove"
  | .index => "list.index"
  | .count => "list.count"
  | .partition => "str.partition"
  | .isdigit => "str.isdigit"
  | .get => "dict.get"
theorem me_pa (b : Me) : PlainAttrs (meTy b) := by
  cases b <;> first | exact PySem.F.plainAttrs_list | exact PySem.F.plainAttrs_str | exact PySem.F.plainAttrs_dict
theorem me_slot (b : Me) : Slot (meTy b) (meNm b) (meId b) := by
  cases b
  · exact PySem.F.slot_list_append
  · exact PySem.F.slot_list_extend
  · exact PySem.F.slot_list_insert
  · exact PySem.F.slot_list_pop
  · exact PySem.F.slot_list_pop
  · exact PySem.F.slot_list_remove
  · exact PySem.F.slot_list_index
  · exact PySem.F.slot_list_count
  · exact PySem.F.slot_str_partition
  · exact PySem.F.slot_str_isdigit
  · exact PySem.F.slot_dict_get
theorem me_ty (b : Me) : typeOf (.builtin (meId b)) = pure (.type "method_descriptor") := by
  cases b
  · exact PySem.F.type_list_append
  · exact PySem.F.type_list_extend
  · exact PySem.F.type_list_insert
  · exact PySem.F.type_list_pop
  · exact PySem.F.type_list_pop
  · exact PySem.F.type_list_remove
  · exact PySem.F.type_list_index
  · exact PySem.F.type_list_count
  · exact PySem.F.type_str_partition
  · exact PySem.F.type_str_isdigit
  · exact PySem.F.type_dict_get
section
variable {X : Cx} {G : Gx}
theorem getLast_of {ms H} {l : List T} {xs : List V} (r : RTs G ms H l xs) {y : T} (h : l.getLast? = some y) : ∃ v, xs[xs.length - 1]? = some v ∧ RT G ms H y v := by
  rw [List.getLast?_eq_getElem?] at h
  obtain ⟨v, h1, h2⟩ := r.get h
  exact ⟨v, by rw [← r.length]; exact h1, h2⟩
theorem pst_wr {ms H S} {Q : VK} {n : Nat} {a : Addr} {l : List T} {xs : List V} {d : D} {v : V} (sm : Sim G ms H S) (hn : nth ms.a n = some a) (r : RTs G ms H l xs) (rd : RD G ms H d v)
    (q : pst G ms H Q d (S.set n (.lst l))) : Q v (upd H a (.lst xs)) :=
  q _ _ _ (Grow.write sm hn _) (sm.write hn _ (.lst upd_same (r.grow (Grow.write sm hn _)))) (rd.grow (Grow.write sm hn _))
theorem sim_lst {ms H S} (sm : Sim G ms H S) {n : Nat} {a : Addr} (hn : nth ms.a n = some a) {l : List T} (e : nth S n = some (.lst l)) : ∃ xs, H a = some (.lst xs) ∧ RTs G ms H l xs := by
  obtain ⟨b, eb, ro⟩ := sm.ob _ _ e
  rw [hn] at eb; cases eb
  cases ro with | lst t1 r1 => exact ⟨_, t1, r1⟩
theorem mt_dget (hu : X.A.units + 1 < cLine) : MtR X "dict.get" (fun x vs H Q => ∃ a y z o, x = .ref a ∧ vs = [y, z] ∧ DGet H a y o ∧ Q (o.getD z) H) := by
  intro pins s σ H x vs v us Q I rx rv h
  obtain ⟨a, y, z, o, rfl, rfl, g, q⟩ := h
  cases rx
  obtain ⟨u1, u2, rfl, r1, r2⟩ := rv.two
  exact d_get2 hu I g r1 r2 fun w' s' I' r' => ⟨_, H, I', r', q⟩
def eqkB (k : Bool) (v : Value) : Bool := match v with
  | .bool c => c == k
  | _ => false
theorem bls_vals : ∀ {bs : List Bool} {us : List Value}, Vals (bs.map V.bl) us → us = bs.map Value.bool
  | [], _, .nil => rfl
  | b :: r, _, .cons h k => by
    cases h
    rw [bls_vals k]; rfl
theorem eqkB_count {k : Bool} : ∀ (bs : List Bool), (bs.map Value.bool).countP (eqkB k) = bs.count k
  | [] => rfl
  | b :: r => by
    rw [List.map_cons, List.countP_cons, List.count_cons, eqkB_count r]; rfl
theorem mt_bcount : MtR X "list.count" (fun x xs H Q => ∃ (p : Addr) (bs : List Bool) (k : Bool), x = .ref p ∧ xs = [.bl k] ∧ SqL X.K H p (bs.map V.bl) ∧ Q (.int (bs.count k : Nat)) H) := by
  intro pins s σ H x xs v us Q I rx rxs h
  obtain ⟨p, bs, k, rfl, rfl, hs, q⟩ := h
  cases rx
  obtain ⟨u, rfl, ru⟩ := rxs.one
  cases ru
  obtain ⟨its, rv, ⟨⟨cls, dd, data, sl⟩, n, ho, hc, hdn, hd⟩, hlen⟩ := I.list hs
  simp only at hc hd
  subst hc hd
  have hi := bls_vals rv
  refine call_meets PySem.F.slot_list_count ⟨_, ho, rfl⟩ PySem.F.entry_list_count (PySem.F.args_list_count_2 _ _)
    (SeqAt.list_countAt p its.toArray n dd sl (.bool k) (eqkB k)) ⟨ho, fun y hy => ?_, ?_⟩
  · have : y ∈ bs.map Value.bool := by rw [← hi]; simpa using hy
    obtain ⟨c, _, rfl⟩ := List.mem_map.mp this
    exact SeqAt.EqAt.bool_bool c k
  · have ec : its.toArray.toList.countP (eqkB k) = bs.count k := by
      rw [← eqkB_count bs, ← hi]
    refine ⟨.int (bs.count k : Nat), H, I.tok _, ⟨s.toks, ?_⟩, q⟩
    show Value.int ((its.toArray.toList.countP (eqkB k) : Nat) : Int) s.toks = Value.int ((bs.count k : Nat) : Int) s.toks
    rw [ec]
theorem me_ok (hK : X.K = G.K) (hu : X.A.units + 1 < cLine) (b : Me) : MtR X (meId b) (lme G b) := by
  intro pins s σ H x xs v us Q I rx rs h
  obtain ⟨ms, S, d, ds, sm, hx, hds, h⟩ := h
  have hz : sizeLine = 16777216 := sizeLine_eq
  unfold meD at h
  split at h
  -- append
  · rename_i n y
    cases hx with | r hn =>
    obtain ⟨w, rfl, hw⟩ := hds.one
    split at h
    · rename_i l e
      split at h
      · obtain ⟨zs, hz1, r1⟩ := sim_lst sm hn e
        cases hw with | t hw =>
        exact mt_append pins s σ H _ _ v us Q I rx rs ⟨_, zs, w, rfl, rfl, hz1, by rw [hz, ← r1.length]; exact h.1, pst_wr sm hn (r1.append (.cons hw .nil)) (.t .non) h.2⟩
      · exact h.elim
    · rename_i l e
      obtain ⟨b, eb, ro⟩ := sm.ob _ _ e
      rw [hn] at eb; cases eb
      cases ro with | @lsD _ _ ys t1 r1 =>
      have g := Grow.write sm hn (.lst (ys ++ [w]))
      exact mt_append pins s σ H _ _ v us Q I rx rs ⟨_, _, w, rfl, rfl, t1, by rw [hz, ← r1.length]; exact h.1,
        h.2 _ _ _ g (sm.write hn _ (.lsD upd_same ((r1.append (.cons hw .nil)).grow g))) (.t .non)⟩
    · exact h.elim
  -- extend
  · rename_i n z
    cases hx with | r hn =>
    obtain ⟨w, rfl, hw⟩ := hds.one
    split at h
    · rename_i l k e e2
      obtain ⟨zs, hz1, r1⟩ := sim_lst sm hn e
      obtain ⟨a2, ks, rfl, t2, r2⟩ := rdL_ok sm hw e2
      exact mt_extend pins s σ H _ _ v us Q I rx rs ⟨_, a2, zs, ks, rfl, rfl, hz1, t2, by rw [hz, ← r1.length, ← r2.length]; exact h.1, pst_wr sm hn (r1.append r2) (.t .non) h.2⟩
    · exact h.elim
  -- insert
  · rename_i n i y
    cases hx with | r hn =>
    obtain ⟨w1, w2, rfl, hw1, hw2⟩ := hds.two
    split at h
    · rename_i l e
      obtain ⟨zs, hz1, r1⟩ := sim_lst sm hn e
      cases hw2 with | t hw2 =>
      exact mt_insert pins s σ H _ _ v us Q I rx rs ⟨_, zs, i, w2, rfl, by rw [hw1.intE], hz1, by rw [hz, ← r1.length]; exact h.1.2.2, h.1.1, by have := h.1.2.1; omega,
        pst_wr sm hn (((r1.take _).append (.cons hw2 .nil)).append (r1.drop _)) (.t .non) h.2⟩
    · exact h.elim
  -- pop
  · rename_i n
    cases hx with | r hn =>
    have := hds.zero
    subst this
    split at h
    · rename_i l e
      obtain ⟨zs, hz1, r1⟩ := sim_lst sm hn e
      split at h
      · rename_i y e2
        obtain ⟨w, h1, h2⟩ := getLast_of r1 e2
        exact mt_pop pins s σ H _ _ v us Q I rx rs ⟨_, zs, w, rfl, rfl, hz1, h1, pst_wr sm hn r1.dropLast (.t h2) h⟩
      · exact h.elim
    · exact h.elim
  -- popAt
  · rename_i n i
    cases hx with | r hn =>
    obtain ⟨w, rfl, hw⟩ := hds.one
    split at h
    · rename_i l e
      obtain ⟨zs, hz1, r1⟩ := sim_lst sm hn e
      split at h
      · rename_i k ek
        split at h
        · rename_i y e2
          obtain ⟨w', h1, h2⟩ := r1.get e2
          obtain ⟨q1, q2, q3, q4⟩ := ixN_seq ek
          have hl : zs.length ≤ 16777216 := by
            obtain ⟨q, _⟩ := I.lstM hz1
            omega
          have hl2 := r1.length
          exact mt_popAt pins s σ H _ _ v us Q I rx rs ⟨_, zs, i, k, w', rfl, by rw [hw.intE], hz1, by omega, by omega, by rw [← r1.length]; exact q1, h1, pst_wr sm hn (r1.eraseIdx k) (.t h2) h⟩
        · exact h.elim
      · exact h.elim
    · exact h.elim
  -- partition
  · rename_i a b
    cases hx with | t hx => cases hx with | str _ =>
    obtain ⟨w, rfl, hw⟩ := hds.one
    cases hw with | t hw => cases hw with | str _ =>
    exact mt_partition pins s σ H _ _ v us Q I rx rs ⟨a, b, rfl, rfl, h.1.1, by rw [hz]; exact h.1.2, pst_tup sm h.2 (.cons (.str _) (.cons (.str _) (.cons (.str _) .nil)))⟩
  -- isdigit
  · rename_i a
    cases hx with | t hx => cases hx with | str _ =>
    have := hds.zero
    subst this
    exact mt_isdigit pins s σ H _ _ v us Q I rx rs ⟨a, rfl, rfl, trivial, pst_t sm h (.bl _)⟩
  -- count
  · rename_i o k
    obtain ⟨w, rfl, hw⟩ := hds.one
    split at h
    · rename_i l e
      obtain ⟨a, ys, rfl, t1, r1⟩ := rdL_ok sm hx e
      split at h
      · rename_i bs eb
        have e2 := asBls_eq eb
        subst e2
        have e3 := r1.bls_of
        subst e3
        cases hw with | t hw => cases hw with | bl _ =>
        exact mt_bcount pins s σ H _ _ v us Q I rx rs ⟨a, bs, k, rfl, rfl, SqL.of t1, pst_t sm h (.int _)⟩
      · exact h.elim
    · exact h.elim
  -- get
  · rename_i o y d
    obtain ⟨w1, w2, rfl, hw1, hw2⟩ := hds.two
    split at h
    · rename_i l k e ek
      obtain ⟨a, ys, rfl, t1, r1⟩ := (rdT_ok sm hx e).dctE
      cases hw1 with | t hw1 =>
      have := key_of hw1 ek
      subst this
      refine mt_dget hu pins s σ H _ _ v us Q I rx rs ⟨a, _, w2, valV ys k, rfl, rfl, DGet.k t1, ?_⟩
      rcases kget_of (k := k) r1 with ⟨e1, e2⟩ | ⟨v', x', e1, e2, r⟩
      · rw [e2] at h
        rw [e1]
        exact h _ _ _ .refl sm hw2
      · rw [e2] at h
        rw [e1]
        exact pst_t sm h r
    · exact h.elim
  · exact h.elim
end
end MP

set_option Elab.async false
set_option linter.all false
set_option maxRecDepth 100000
set_option maxHeartbeats 1000000
namespace MP
open PySem L2 PySem.Spec PyProof.Rows
/-! ### the text and the language's terms -/
/-- the names of the program's things by their numbers; which of them are known -/
structure Nm where
  fn : Nat → Str
  gl : Nat → Str
  cl : Nat → Str
  fd : Nat → Nat → Str
  isF : Nat → Bool
  isG : Nat → Bool
  isC : Nat → Bool
  isM : Nat → Bool
  nf : Nat → Nat
  mc : Nat → Nat
  ini : Nat → Nat
def biNm : Bi → Str
  | .len => "len"
  | .abs => "abs"
  | .min2 => "min"
  | .max2 => "max"
  | .min1 => "min"
  | .max1 => "max"
  | .sum => "sum"
  | .all => "all"
  | .any => "any"
  | .sorted => "sorted"
  | .divmod => "divmod"
  | .list => "list"
  | .tuple => "tuple"
  | .int => "int"
  | .str => "str"
  | .dict => "dict"
/-- how many arguments -/
def biAr : Bi → Nat
  | .min2 => 2
  | .max2 => 2
  | .divmod => 2
  | _ => 1
def dbg (x : Str) : Bool := !(x == ("__debug__" : Str)) && !(x == ("__classdict__" : Str)) && !decide (x = ("__name__" : Str))
def glB (sc : Scope) (x : Str) : Bool := decide (sc.names.lookup x = some .globalImplicit) && dbg x
def visB (sc : Scope) (x : Str) : Bool := (decide (sc.names.lookup x = some .local) || decide (sc.names.lookup x = some .cell) || decide (sc.names.lookup x = some .free)) && dbg x
def locB (sc : Scope) (x : Str) : Bool := decide (sc.names.lookup x = some .local) || decide (sc.names.lookup x = some .cell)
/-- no star, no slice, no set -/
def plainE : Expr → Bool
  | .Starred _ _ => false
  | .Slice _ _ _ _ => false
  | .Set _ _ _ => false
  | _ => true
/-- no call without arguments (super() would be one) -/
def noCall0 : Expr → Bool
  | .Call _ [] _ _ => false
  | _ => true
def tyB (nm : Nm) (sc : Scope) : Ty → Expr → Bool
  | .int, .Name x _ => decide (x = ("int" : Str)) && glB sc x
  | .bool, .Name x _ => decide (x = ("bool" : Str)) && glB sc x
  | .tuple, .Name x _ => decide (x = ("tuple" : Str)) && glB sc x
  | .str, .Name x _ => decide (x = ("str" : Str)) && glB sc x
  | _, _ => false
def subsetB (a b : List Nat) : Bool := a.all fun x => b.contains x
mutual
def tgVars : Tg → List Nat
  | .var i => [i]
  | .tup ts => tgsVars ts
  | .ix _ _ => [1000000]
  | .fld _ _ _ => [1000000]
def tgsVars : Tgs → List Nat
  | .nil => []
  | .cons t r => tgVars t ++ tgsVars r
end
def isTup : Expr → Bool
  | .Tuple _ _ _ => true
  | _ => false
mutual
def mtE (nm : Nm) (N : List Str) : Ex → Scope → Expr → Bool
  | .var i, sc, .Name x _ => decide (N[i]? = some x) && visB sc x
  | .glob g, sc, .Name x _ => decide (x = nm.gl g) && nm.isG g && glB sc x
  | .int i, _, .Constant (.int j) _ _ => decide (i = j)
  | .str i, _, .Constant (.str j) _ _ => decide (i = j)
  | .non, _, .Constant .none _ _ => true
  | .bl i, _, .Constant (.bool j) _ _ => i == j
  | .bin _ o a b, sc, .BinOp pa po pb _ => decide (po = opOf o) && mtE nm N a sc pa && mtE nm N b sc pb
  | .neg a, sc, .UnaryOp .USub pa _ => mtE nm N a sc pa
  | .not a, sc, .UnaryOp .Not pa _ => mtE nm N a sc pa
  | .bool o es, sc, .BoolOp po pes _ => decide (po = if o then BoolOp.Or else BoolOp.And) && decide (2 ≤ pes.length) && mtL nm N es sc pes
  | .cmp a cs, sc, .Compare pa ops pcs _ => mtE nm N a sc pa && mtC nm N cs sc ops pcs
  | .tup es, sc, .Tuple pes _ _ => decide (pes.length ≤ 1000) && mtL nm N es sc pes
  | .lst _ es, sc, .List pes _ => decide (pes.length ≤ 1000) && mtL nm N es sc pes
  | .dct _ ks es, sc, .Dict pks pvs _ => decide (ks = []) && decide (pks.length = 0) && decide (pvs.length = 0) && mtL nm N es sc pvs
  | .ix a b, sc, .Subscript pa pb _ => plainE pb && mtE nm N a sc pa && mtE nm N b sc pb
  | .sl _ a lo hi, sc, .Subscript pa (.Slice plo phi none _) _ => mtE nm N a sc pa && mtO nm N lo sc plo && mtO nm N hi sc phi
  | .rev a, sc, .Subscript pa (.Slice none none (some (.UnaryOp .USub (.Constant (.int 1) _ _) _)) _) _ => mtE nm N a sc pa
  | .call f es, sc, .Call (.Name x _) pes [] _ => decide (x = nm.fn f) && nm.isF f && glB sc x && decide (pes.length ≠ 0) && mtL nm N es sc pes
  | .calv i es, sc, .Call (.Name x _) pes [] _ => decide (N[i]? = some x) && visB sc x && decide (pes.length ≠ 0) && mtL nm N es sc pes
  | .bi _ b es, sc, .Call (.Name x _) pes [] _ => decide (x = biNm b) && glB sc x && decide (pes.length = biAr b) && mtL nm N es sc pes
  | .met b o es, sc, .Call (.Attribute po name apos) pes [] pos => decide (name = meNm b) && noCall0 po && (apos.endLine == pos.line) && decide (pes.length < 20) && mtE nm N o sc po && mtL nm N es sc pes
  | .um c f o es, sc, .Call (.Attribute po name apos) pes [] pos => decide (name = nm.fn f) && nm.isM f && nm.isC c && decide (nm.mc f = c) && decide (pes.length < 20) && noCall0 po && (apos.endLine == pos.line) && mtE nm N o sc po && mtL nm N es sc pes
  | .mk c f nf es, sc, .Call (.Name x _) pes [] _ => decide (x = nm.cl c) && nm.isC c && nm.isM f && decide (nm.ini c = f) && decide (nm.nf c = nf) && glB sc x && decide (pes.length ≠ 0) && mtL nm N es sc pes
  | .fld c f o, sc, .Attribute po name _ => decide (name = nm.fd c f) && nm.isC c && decide (f < nm.nf c) && noCall0 po && mtE nm N o sc po
  | .isi a [t], sc, .Call (.Name x _) [pa, pt] [] _ => decide (x = ("isinstance" : Str)) && glB sc x && plainE pa && mtE nm N a sc pa && tyB nm sc t pt
  | .comp _ vs tg it c e, sc, .ListComp pe [⟨ptg, pit, pifs, asy⟩] sc' _ => decide (asy = 0) && blkC N sc sc' (vs.map fun i => (N.getD i (Str.mk #[]), i)) && subsetB (tgVars tg) vs &&
      plainE pit && mtI nm N it sc pit (isTup ptg) && mtG nm N tg sc' ptg && mtT nm N c sc' pifs && mtE nm N e sc' pe
  | _, _, _ => false
def mtL (nm : Nm) (N : List Str) : Exs → Scope → List Expr → Bool
  | .nil, _, [] => true
  | .cons e r, sc, p :: ps => plainE p && mtE nm N e sc p && mtL nm N r sc ps
  | _, _, _ => false
def mtC (nm : Nm) (N : List Str) : Cms → Scope → List CmpOp → List Expr → Bool
  | .one o e, sc, [op], [p] => decide (op = copOf o) && plainE p && mtE nm N e sc p
  | .cons o e r, sc, op :: ops, p :: ps => decide (op = copOf o) && plainE p && mtE nm N e sc p && mtC nm N r sc ops ps
  | _, _, _, _ => false
def mtO (nm : Nm) (N : List Str) : Exo → Scope → Option Expr → Bool
  | .no, _, none => true
  | .so e, sc, some p => mtE nm N e sc p
  | _, _, _ => false
def mtT (nm : Nm) (N : List Str) : Exo → Scope → List Expr → Bool
  | .no, _, [] => true
  | .so e, sc, [p] => mtE nm N e sc p
  | _, _, _ => false
def mtI (nm : Nm) (N : List Str) : It → Scope → Expr → Bool → Bool
  | .ex e, sc, p, _ => mtE nm N e sc p
  | .range es, sc, .Call (.Name x _) pes [] _, _ => decide (x = ("range" : Str)) && glB sc x && decide (pes.length ≤ 3) && decide (pes.length ≠ 0) && mtL nm N es sc pes
  | .zip a b, sc, .Call (.Name x _) [pa, pb] [] _, t => t && decide (x = ("zip" : Str)) && glB sc x && plainE pa && plainE pb && mtE nm N a sc pa && mtE nm N b sc pb
  | .enum a, sc, .Call (.Name x _) [pa] [] _, t => t && decide (x = ("enumerate" : Str)) && glB sc x && plainE pa && mtE nm N a sc pa
  | _, _, _, _ => false
def mtG (nm : Nm) (N : List Str) : Tg → Scope → Expr → Bool
  | .var i, sc, .Name x _ => decide (N[i]? = some x) && locB sc x
  | .tup ts, sc, .Tuple pts _ _ => mtGs nm N ts sc pts
  | .ix o i, sc, .Subscript po pi _ => plainE pi && mtE nm N o sc po && mtE nm N i sc pi
  | .fld c f o, sc, .Attribute po name _ => decide (name = nm.fd c f) && nm.isC c && decide (f < nm.nf c) && mtE nm N o sc po
  | _, _, _ => false
def mtGs (nm : Nm) (N : List Str) : Tgs → Scope → List Expr → Bool
  | .nil, _, [] => true
  | .cons t r, sc, p :: ps => plainE p && mtG nm N t sc p && mtGs nm N r sc ps
  | _, _, _ => false
end
end MP

set_option Elab.async false
set_option linter.all false
set_option maxRecDepth 100000
set_option maxHeartbeats 1000000
namespace MP
open PySem L2 PySem.Spec
open PyProof.Rows hiding St
/-! ### the promise of a def, the program's facts -/
structure Pg where
  G : Gx
  nm : Nm
  tab : Nat → Option Fn
  ge : Nat → T
  up : Nat → List Ty
  P : Program
  w : World
  mg : Str → Option Value
  base : Heap
inductive RX (G : Gx) (ms : Md) (H : Hp) : Nat → List T → Option Addr → Prop
  | no {c : Nat} {a : List T} : G.xf c = none → RX G ms H c a none
  | so {c : Nat} {t : T} {v : V} {dx : Addr} {f : Str} : G.xf c = some f → H dx = some (.xd [(f, v)]) → RT G ms H t v → RX G ms H c [t] (some dx)
def spF (p : Pg) (n f : Nat) : Sp := fun vs H Q E => ∃ (d : Fn) (ms : Md) (S : Sto) (ds : List D) (Qi : Post) (Ei : XPost), p.tab f = some d ∧ ds.length = d.np ∧ Sim p.G ms H S ∧ RDs p.G ms H ds vs ∧ cfn p.tab p.ge p.up n f ds S Qi Ei ∧
  (∀ dd S' v ms' H', Qi dd S' → Grow ms H ms' H' → Sim p.G ms' H' S' → RD p.G ms' H' dd v → Q v H') ∧
  (∀ c a S' dx ms' H', Ei c a S' → Grow ms H ms' H' → Sim p.G ms' H' S' → RX p.G ms' H' c a dx → E (.ref (p.G.cad c)) dx H')
/-- the built-in names that the language knows -/
def bltNames : List Str := ["len", "abs", "min", "max", "sum", "all", "any", "sorted", "divmod", "list", "tuple", "int", "str", "dict", "range", "zip", "enumerate", "isinstance", "bool"]
structure Fct (p : Pg) (n : Nat) : Prop where
  glob : ∀ g, p.nm.isG g = true → ∃ v u, p.mg (p.nm.gl g) = some u ∧ RelV v u ∧ ∀ ms H, RT p.G ms H (p.ge g) v
  fn : ∀ f, p.nm.isF f = true → p.mg (p.nm.fn f) = some (.ref (p.G.fad f)) ∧ PySem.W.keepIn p.G.K (.ref (p.G.fad f)) = true
  call : ∀ f, (p.nm.isF f = true ∨ p.nm.isM f = true) → ∃ fd ps, FnOk p.P p.w p.G.K p.mg p.base (L2.CX p.P p.w) (2 * n) (p.G.fad f) fd ps (spF p n f) ∧ Binds p.G.K fd ps []
  blt : ∀ x ∈ bltNames, p.mg x = none
  kf : ∀ f, p.G.kf f = true → p.nm.isF f = true
  nf : p.G.nf = p.nm.nf
  fnm : p.G.fnm = p.nm.fd
  cls : ∀ c, p.nm.isC c = true → Cls p.G.K (p.G.cad c) ∧ p.mg (p.nm.cl c) = some (.ref (p.G.cad c)) ∧ Mk p.G.K (p.G.cad c) (p.G.fad (p.nm.ini c)) ∧ p.nm.nf c ≤ 100 ∧
    (∀ i, i < p.nm.nf c → NoAttr p.G.K (p.G.cad c) (p.nm.fd c i)) ∧ (∀ i j, i < p.nm.nf c → j < p.nm.nf c → p.nm.fd c i = p.nm.fd c j → i = j)
  meth : ∀ f, p.nm.isM f = true → Meth p.G.K (p.G.cad (p.nm.mc f)) (p.nm.fn f) (p.G.fad f) ∧ ∀ i, i < p.nm.nf (p.nm.mc f) → p.nm.fd (p.nm.mc f) i ≠ p.nm.fn f
structure XOk (p : Pg) (X : Cx) (sc : Scope) (n : Nat) : Prop where
  P : X.prog = p.P
  w : X.w = p.w
  K : X.K = p.G.K
  mg : X.mg = p.mg
  base : X.base = p.base
  nd : X.N.Nodup
  calm : X.calm = true
  room : Room (2 * n + 1) X.A
  gl : ∀ x, sc.names.lookup x = some .globalImplicit → X.env.scope.names.lookup x = some .globalImplicit
  lo : ∀ x, Loc sc x → Loc X.env.scope x ∧ (X.fn x = true ∨ X.env.scope.names.lookup x = some .local)
  cf : ∀ x, (sc.names.lookup x = some .cell ∨ sc.names.lookup x = some .free) → X.env.scope.names.lookup x = some .cell ∨ X.env.scope.names.lookup x = some .free
  kd : X.env.scope.kind = .function

/-! ### readings of the transformer -/
structure Bs where
  b : Option (Md × Hp)
  sg : Option Sg
def B0 : Bs := ⟨none, none⟩
def Bs.gr (B : Bs) (ms : Md) (H : Hp) : Prop := ∀ m0 H0, B.b = some (m0, H0) → Grow m0 H0 ms H
theorem Bs.gr.next {B : Bs} {ms H ms' H'} (h : B.gr ms H) (g : Grow ms H ms' H') : B.gr ms' H' := fun m0 H0 e => (h m0 H0 e).trans g
structure At (G : Gx) (B : Bs) (ms : Md) (H : Hp) (S : Sto) (σI : Sg) (σ : L2.St) : Prop where
  g : B.gr ms H
  sg : ∀ s0, B.sg = some s0 → σI = s0
  sm : Sim G ms H S
  sl : Sl G ms H σI σ
theorem At.next {G B ms H S σI σ ms' H' S'} (a : At G B ms H S σI σ) (g : Grow ms H ms' H') (s : Sim G ms' H' S') : At G B ms' H' S' σI σ := ⟨a.g.next g, a.sg, s, a.sl.grow g⟩
def wX (p : Pg) (B : Bs) (E : XPost) : WX := fun cls d σ H => ∃ ms S c a, B.gr ms H ∧ Sim p.G ms H S ∧ (∀ s0, B.sg = some s0 → Sl p.G ms H s0 σ) ∧ cls = .ref (p.G.cad c) ∧ RX p.G ms H c a d ∧ E c a S
def lE (G : Gx) (B : Bs) (t : Sg → Sto → Post → Prop) : TE := fun σ H Q => ∃ ms S σI, At G B ms H S σI σ ∧ t σI S (pst G ms H Q)
def lA (G : Gx) (B : Bs) (t : Sg → Sto → (List D → Sto → Prop) → Prop) : TA := fun σ H Q => ∃ ms S σI, At G B ms H S σI σ ∧ t σI S (fun ds S' => ∀ vs ms' H', Grow ms H ms' H' → Sim G ms' H' S' → RDs G ms' H' ds vs → Q vs H')
def lT (G : Gx) (B : Bs) (t : Sg → Sto → Post → Prop) : TT := fun σ H Q => ∃ ms S σI, At G B ms H S σI σ ∧ t σI S (fun d S' => tru d S' fun b => ∀ ms' H', Grow ms H ms' H' → Sim G ms' H' S' → Q b H')
abbrev MonoE (t : Sg → Sto → Post → Prop) : Prop := ∀ σ S (Q Q' : Post), (∀ d S, Q d S → Q' d S) → t σ S Q → t σ S Q'
section
variable {p : Pg} {X : Cx} {G : Gx} {B : Bs}
theorem lE_into {t : Sg → Sto → Post → Prop} (m : MonoE t) {ms H S σI σ} {k : Post} {R : V → Hp → Prop} (a : At G B ms H S σI σ) (h : t σI S k)
    (hk : ∀ d S' v ms' H', Grow ms H ms' H' → Sim G ms' H' S' → RD G ms' H' d v → k d S' → R v H') : lE G B t σ H R :=
  ⟨ms, S, σI, a, m _ _ _ _ (fun d S' q v ms' H' g s r => hk d S' v ms' H' g s r q) h⟩
theorem PE.weak {e : Expr} {t t' : TE} (h : PE X e t) (k : ∀ σ H Q, t' σ H Q → t σ H Q) : PE X e t' := ⟨fun pins s σ H Q I q => h.run pins s σ H Q I (k σ H Q q)⟩
theorem PT.weak {e : Expr} {t t' : TT} (h : PT X e t) (k : ∀ σ H Q, t' σ H Q → t σ H Q) : PT X e t' := ⟨fun pins s σ H Q I q => h.run pins s σ H Q I (k σ H Q q)⟩
theorem PW.weak {e : Expr} {t t' : TT} (h : PW X e t) (k : ∀ σ H Q, t' σ H Q → t σ H Q) : PW X e t' := ⟨fun wh pins s σ H Q I q => h.run wh pins s σ H Q I (k σ H Q q)⟩
theorem PA.weak {e : List Expr} {t t' : TA} (h : PA X e t) (k : ∀ σ H Q, t' σ H Q → t σ H Q) : PA X e t' := ⟨fun pos pins s σ H Q I q => h.run pos pins s σ H Q I (k σ H Q q)⟩
theorem PS.weak {e : Stmt} {t t' : TS} (h : PS X e t) (k : ∀ D σ H, t' D σ H → t D σ H) : PS X e t' := ⟨fun pins s σ H D I q => h.run pins s σ H D I (k D σ H q)⟩
theorem PSs.weak {e : List Stmt} {t t' : TS} (h : PSs X e t) (k : ∀ D σ H, t' D σ H → t D σ H) : PSs X e t' := ⟨fun pins s σ H D I q => h.run pins s σ H D I (k D σ H q)⟩
theorem PG.weak {e : Expr} {t t' : TG} (h : PG X e t) (k : ∀ v σ H Q, t' v σ H Q → t v σ H Q) : PG X e t' := ⟨fun pins s σ H v u Q I r q => h.run pins s σ H v u Q I r (k v σ H Q q)⟩
theorem PI.weak {tg e : Expr} {t t' : TI} (h : PI X tg e t) (k : ∀ σ H Q, t' σ H Q → t σ H Q) : PI X tg e t' := ⟨fun pins s σ H R I q => h.run pins s σ H R I (k σ H R q)⟩

/-! ### what a plain expression is -/
theorem star_plain {e : Expr} {es : List Expr} {env : Env} (h : plainE e = true) : starEach (e :: es) env = (false, eval e env) :: starEach es env := by
  cases e <;> first | rfl | cases h
theorem mtL_star {nm N sc env} : ∀ {es : Exs} {ps : List Expr}, mtL nm N es sc ps = true → ∀ pos, (backTo pos (starEach ps env)).any (·.1) = false ∧ (starEach ps env).length = ps.length ∧ (backTo pos (starEach ps env)).all (fun x => !x.1) = true
  | .nil, [], _, _ => ⟨rfl, rfl, rfl⟩
  | .cons e r, q :: ps, h, pos => by
    rw [mtL, Bool.and_eq_true, Bool.and_eq_true] at h
    obtain ⟨i1, i2, i3⟩ := mtL_star (env := env) h.2 pos
    rw [star_plain h.1.1]
    refine ⟨?_, ?_, ?_⟩
    · show (false || (backTo pos (starEach ps env)).any (·.1)) = false
      rw [i1]; rfl
    · show (starEach ps env).length + 1 = ps.length + 1
      rw [i2]
    · show (true && (backTo pos (starEach ps env)).all (fun x => !x.1)) = true
      rw [i3]; rfl
  | .nil, _ :: _, h, _ => by cases h
  | .cons _ _, [], h, _ => by cases h
theorem base_plain {o : Expr} {name : Str} {env : Env} (h : noCall0 o = true) : attributeBase o name env (eval o env) = eval o env := by
  cases o with
  | Call f as kw pos =>
    cases as with
    | nil => cases h
    | cons a r => unfold attributeBase; cases f <;> rfl
  | _ => rfl
theorem ix_plain {b : Expr} (h : plainE b = true) : PlainIx b := fun o i => by
  cases b <;> first | rfl | cases h
theorem fold_plain {b : Expr} {env : Env} (h : plainE b = true) : ∀ x, foldedSetIterable b env x = pure x := fun x => by
  cases b <;> first | rfl | cases h
theorem mark_plain {op : CmpOp} {b : Expr} (h : plainE b = true) : behindInMarks op b = false := by
  cases b <;> first | rfl | cases h
/-- an expression whose test is its value's truth -/
def valT : Expr → Bool
  | .UnaryOp .Not _ _ => false
  | .BoolOp _ _ _ => false
  | .IfExp _ _ _ _ => false
  | .Compare _ _ _ _ => false
  | _ => true
theorem valT_true {a : Expr} {env : Env} (h : valT a = true) : ∀ whole, isTrue a env whole = (do let v ← whole; standAt a.pos; holding [v] (truthy v)) := fun whole => by
  cases a with
  | UnaryOp op x pos => cases op <;> first | rfl | cases h
  | BoolOp _ _ _ => cases h
  | IfExp _ _ _ _ => cases h
  | Compare _ _ _ _ => cases h
  | _ => rfl
theorem dbg_of {x : Str} (h : dbg x = true) : (x == ("__debug__" : Str)) = false ∧ (x == ("__classdict__" : Str)) = false ∧ x ≠ "__name__" := by
  unfold dbg at h
  rw [Bool.and_eq_true, Bool.and_eq_true, Bool.not_eq_true', Bool.not_eq_true', Bool.not_eq_true', decide_eq_false_iff_not] at h
  exact ⟨h.1.1, h.1.2, h.2⟩
theorem glB_of {sc : Scope} {x : Str} (h : glB sc x = true) : sc.names.lookup x = some .globalImplicit ∧ dbg x = true := by
  unfold glB at h
  rw [Bool.and_eq_true] at h
  exact ⟨of_decide_eq_true h.1, h.2⟩
theorem visB_of {sc : Scope} {x : Str} (h : visB sc x = true) : Vis sc x ∧ dbg x = true := by
  unfold visB at h
  rw [Bool.and_eq_true, Bool.or_eq_true, Bool.or_eq_true] at h
  refine ⟨?_, h.2⟩
  rcases h.1 with (h | h) | h
  · exact .inl (of_decide_eq_true h)
  · exact .inr (.inl (of_decide_eq_true h))
  · exact .inr (.inr (of_decide_eq_true h))
theorem locB_of {sc : Scope} {x : Str} (h : locB sc x = true) : Loc sc x := by
  unfold locB at h
  rw [Bool.or_eq_true] at h
  exact h.elim (fun h => .inl (of_decide_eq_true h)) fun h => .inr (of_decide_eq_true h)

/-! ### truth -/
theorem tru_of {ms H S} (hK : X.K = G.K) (s : Sim G ms H S) {d : D} {v : V} (r : RD G ms H d v) {k : Bool → Prop} (h : tru d S k) : ∃ b, TruV X.K v H b ∧ k b := by
  unfold tru at h
  have hz : sizeLine = 16777216 := sizeLine_eq
  split at h
  · rename_i e
    have := (rdT_ok s r e).non
    subst this
    exact ⟨false, rfl, h⟩
  · rename_i b e
    have := (rdT_ok s r e).bl
    subst this
    exact ⟨b, rfl, h⟩
  · rename_i i e
    have := (rdT_ok s r e).int
    subst this
    exact ⟨i != 0, rfl, h⟩
  · rename_i x e
    have := (rdT_ok s r e).str
    subst this
    refine ⟨x.length != 0, ⟨by rw [hz]; exact h.1, ?_⟩, h.2⟩
    by_cases q : x.length = 0
    · rw [q]; rfl
    · rw [bne_iff_ne.mpr q, bne_iff_ne.mpr (by omega)]
  · rename_i l e
    obtain ⟨a, xs, rfl, t1, r1⟩ := (rdT_ok s r e).tup
    refine ⟨!l.isEmpty, .inr (.inl ⟨xs, hK ▸ t1.sq, ?_⟩), h⟩
    cases r1 <;> rfl
  · rename_i l e
    obtain ⟨a, xs, rfl, t1, r1⟩ := (rdT_ok s r e).lstE
    refine ⟨!l.isEmpty, .inl ⟨xs, SqL.of t1, ?_⟩, h⟩
    cases r1 <;> rfl
  · exact h.elim
/-- a value's truth, twice the same -/
theorem tru_two {d : D} {S : Sto} {k k' : Bool → Prop} (h : ∀ b, (∀ {j : Bool → Prop}, tru d S j → j b) → k b → k' b) (q : tru d S k) : tru d S k' := by
  unfold tru at *
  cases e : rdT d S with
  | none => rw [e] at q; exact q.elim
  | some x =>
    rw [e] at h q
    cases x <;> first
      | exact q.elim
      | exact h _ (fun {j} q => q) q
      | exact ⟨q.1, h _ (fun {j} q => q.2) q.2⟩
end
end MP
namespace MP
open PySem L2 PySem.Spec
open PyProof.Rows hiding St
theorem XOk.vi {p : Pg} {n : Nat} {X : Cx} {sc : Scope} (ok : XOk p X sc n) (x : Str) (h : Vis sc x) : Vis X.env.scope x := by
  rcases h with h | h | h
  · rcases (ok.lo x (.inl h)).1 with q | q
    · exact .inl q
    · exact .inr (.inl q)
  · rcases (ok.lo x (.inr h)).1 with q | q
    · exact .inl q
    · exact .inr (.inl q)
  · rcases ok.cf x (.inr h) with q | q
    · exact .inr (.inl q)
    · exact .inr (.inr q)
end MP

set_option Elab.async false
set_option linter.all false
set_option maxRecDepth 100000
set_option maxHeartbeats 1000000
namespace MP
open PySem L2 PySem.Spec
open PyProof.Rows hiding St
section
variable {p : Pg} {n : Nat} {X : Cx} {sc : Scope} {B : Bs} {E : XPost}
abbrev cfp (p : Pg) (n : Nat) : CF := cfn p.tab p.ge p.up n
abbrev tE (p : Pg) (n : Nat) (e : Ex) (E : XPost) : Sg → Sto → Post → Prop := fun σ S Q => wpE (cfp p n) p.ge p.up e E σ S Q
abbrev tL (p : Pg) (n : Nat) (e : Exs) (E : XPost) : Sg → Sto → (List D → Sto → Prop) → Prop := fun σ S Q => wpL (cfp p n) p.ge p.up e E σ S Q
theorem mE (e : Ex) (E : XPost) : MonoE (tE p n e E) := fun _ _ _ _ h q => wpE_mono (cfn_mono n) e (fun _ _ _ q => q) h q
theorem mL (e : Exs) (E : XPost) : ∀ σ S (Q Q' : List D → Sto → Prop), (∀ d S, Q d S → Q' d S) → tL p n e E σ S Q → tL p n e E σ S Q' := fun _ _ _ _ h q => wpL_mono (cfn_mono n) e (fun _ _ _ q => q) h q
theorem Gl_of (ok : XOk p X sc n) {x : Str} (h : glB sc x = true) : Gl X x := ok.gl x (glB_of h).1
theorem lA_into (e : Exs) {ms H S σI σ} {k : List D → Sto → Prop} {R : List V → Hp → Prop} (a : At p.G B ms H S σI σ) (h : tL p n e E σI S k)
    (hk : ∀ d S' v ms' H', Grow ms H ms' H' → Sim p.G ms' H' S' → RDs p.G ms' H' d v → k d S' → R v H') : lA p.G B (tL p n e E) σ H R :=
  ⟨ms, S, σI, a, mL e E _ _ _ _ (fun d S' q v ms' H' g s r => hk d S' v ms' H' g s r q) h⟩
theorem pt_of {pe : Expr} {t : Sg → Sto → Post → Prop} (m : MonoE t) (ok : XOk p X sc n) (h : PE X pe (lE p.G B t)) (hv : valT pe = true) : PT X pe (lT p.G B t) :=
  PT.weak (pt_truth h (valT_true hv)) fun σ H Q q => by
    obtain ⟨ms, S, σI, a, q⟩ := q
    exact lE_into m a q fun d S' v ms' H' g s r q => by
      obtain ⟨b, h1, h2⟩ := tru_of ok.K s r q
      exact ⟨b, h1, h2 _ _ g s⟩
/-! ### leaves -/
theorem e_var {i : Nat} {x : Str} {pos : Pos} (ok : XOk p X sc n) (h : mtE p.nm X.N (.var i) sc (.Name x pos) = true) : PE X (.Name x pos) (lE p.G B (tE p n (.var i) E)) := by
  rw [mtE, Bool.and_eq_true] at h
  obtain ⟨hv, hd⟩ := visB_of h.2
  obtain ⟨d1, d2, _⟩ := dbg_of hd
  refine PE.weak (pe_var (of_decide_eq_true h.1) (ok.vi x hv) d1 d2) fun σ H Q q => ?_
  obtain ⟨ms, S, σI, a, q⟩ := q
  show tVar i σ H Q
  unfold tE wpE at q
  split at q
  · rename_i d e
    obtain ⟨v, e1, r⟩ := a.sl.2 i d e
    exact ⟨v, e1, q _ _ _ .refl a.sm r⟩
  · exact q.elim
theorem e_glob {g : Nat} {x : Str} {pos : Pos} (fx : Fct p n) (ok : XOk p X sc n) (h : mtE p.nm X.N (.glob g) sc (.Name x pos) = true) : PE X (.Name x pos) (lE p.G B (tE p n (.glob g) E)) := by
  rw [mtE, Bool.and_eq_true, Bool.and_eq_true] at h
  obtain ⟨v, u, h1, h2, h3⟩ := fx.glob g h.1.2
  have hx := of_decide_eq_true h.1.1
  obtain ⟨d1, _, _⟩ := dbg_of (glB_of h.2).2
  refine PE.weak (pe_glob (Gl_of ok h.2) (by rw [ok.mg, hx]; exact h1) h2 d1) fun σ H Q q => ?_
  obtain ⟨ms, S, σI, a, q⟩ := q
  exact pst_t a.sm q (h3 ms H)
theorem lE_t {t : Sg → Sto → Post → Prop} {x : T} {v : V} (ht : ∀ σ S Q, t σ S Q → Q (.t x) S) (r : ∀ ms H, RT p.G ms H x v) : ∀ σ H Q, lE p.G B t σ H Q → tC v σ H Q := fun σ H Q q => by
  obtain ⟨ms, S, σI, a, q⟩ := q
  exact pst_t a.sm (ht _ _ _ q) (r ms H)
/-! ### one, two parts -/
theorem lE_un {a : Ex} {f : D → Sto → Post → Prop} {r : V → Hp → VK → Prop} (hf : ∀ ms H S d v Q, Sim p.G ms H S → RD p.G ms H d v → f d S (pst p.G ms H Q) → r v H Q) (mf : ∀ d S (Q Q' : Post), (∀ d S, Q d S → Q' d S) → f d S Q → f d S Q') :
    ∀ σ H Q, lE p.G B (fun σ S Q => tE p n a E σ S fun x S1 => f x S1 Q) σ H Q → tUn r (lE p.G B (tE p n a E)) σ H Q := fun σ H Q q => by
  obtain ⟨ms, S, σI, at_, q⟩ := q
  exact lE_into (mE a E) at_ q fun d S' v ms' H' g s r q => hf _ _ _ _ _ _ s r (mf _ _ _ _ (fun d S q v ms2 H2 g2 s2 r2 => q _ _ _ (g.trans g2) s2 r2) q)
theorem lE_bin {a b : Ex} {f : D → D → Sto → Post → Prop} {r : R2} (hf : ∀ x y H Q, l2 p.G f x y H Q → r x y H Q) (mf : ∀ d e S (Q Q' : Post), (∀ d S, Q d S → Q' d S) → f d e S Q → f d e S Q') :
    ∀ σ H Q, lE p.G B (fun σ S Q => tE p n a E σ S fun x S1 => tE p n b E σ S1 fun y S2 => f x y S2 Q) σ H Q → tOp r (lE p.G B (tE p n a E)) (lE p.G B (tE p n b E)) σ H Q := fun σ H Q q => by
  obtain ⟨ms, S, σI, at_, q⟩ := q
  exact lE_into (mE a E) at_ q fun d S' v ms' H' g s r q => lE_into (mE b E) (at_.next g s) q fun d2 S2 v2 ms2 H2 g2 s2 r2 q2 =>
    hf _ _ _ _ ⟨ms2, S2, d, d2, s2, r.grow g2, r2, mf _ _ _ _ _ (fun d S q v ms3 H3 g3 s3 r3 => q _ _ _ ((g.trans g2).trans g3) s3 r3) q2⟩
theorem neg_ok : UnR X (unaryOp .USub) (fun v H Q => ∃ ms S d, Sim p.G ms H S ∧ RD p.G ms H d v ∧ negD d S (pst p.G ms H Q)) := by
  intro pins s σ H x v Q I rx h
  obtain ⟨ms, S, d, sm, hx, h⟩ := h
  unfold negD at h
  split at h
  · rename_i i
    exact un_neg pins s σ H x v Q I rx ⟨i, hx.intE, pst_t sm h (.int _)⟩
  · exact h.elim
/-! ### argument lists -/
theorem pa_nil' : PA X [] (lA p.G B (tL p n .nil E)) := PA.weak pa_nil fun σ H Q q => by
  obtain ⟨ms, S, σI, a, q⟩ := q
  exact q [] _ _ .refl a.sm .nil
theorem pa_cons' {e : Ex} {r : Exs} {pe : Expr} {ps : List Expr} (hp : plainE pe = true) (h : PE X pe (lE p.G B (tE p n e E))) (hr : PA X ps (lA p.G B (tL p n r E))) : PA X (pe :: ps) (lA p.G B (tL p n (.cons e r) E)) :=
  PA.weak (pa_cons h hr (star_plain hp)) fun σ H Q q => by
    obtain ⟨ms, S, σI, a, q⟩ := q
    exact lE_into (mE e E) a q fun d S' v ms' H' g s rd q => lA_into r (a.next g s) q fun d2 S2 v2 ms2 H2 g2 s2 r2 q2 =>
      q2 _ _ _ (g.trans g2) s2 (.cons (rd.grow g2) r2)
/-- pure data in a list -/
theorem frz0 {ms H} : ∀ {ds : List D} {vs : List V} {l : List T}, RDs p.G ms H ds vs → frzD [] ds = some l → RTs p.G ms H l vs
  | [], _, _, .nil, e => by simp only [frzD, Option.some.injEq] at e; subst e; exact .nil
  | .t x :: r, _, _, .cons (.t h) k, e => by
    simp only [frzD, rdT] at e
    split at e
    · rename_i x' l' e1 e2
      cases e1; cases e
      exact .cons h (frz0 k e2)
    · cases e
  | .r j :: r, _, _, .cons (.r h) k, e => by
    simp only [frzD, rdT, nth] at e
    cases e
theorem mtL_len {nm N sc} : ∀ {es : Exs} {ps : List Expr}, mtL nm N es sc ps = true → ∀ {σ S} {Q : List D → Sto → Prop}, tL p n es E σ S Q → tL p n es E σ S fun ds S' => ds.length = ps.length ∧ Q ds S'
  | .nil, [], _, _, _, _, q => ⟨rfl, q⟩
  | .cons e r, q :: ps, h, _, _, _, w => by
    rw [mtL, Bool.and_eq_true, Bool.and_eq_true] at h
    exact mE e E _ _ _ _ (fun d S w => mL r E _ _ _ _ (fun ds S w => ⟨by rw [List.length_cons, List.length_cons, w.1], w.2⟩) (mtL_len h.2 w)) w
  | .nil, _ :: _, h, _, _, _, _ => by cases h
  | .cons _ _, [], h, _, _, _, _ => by cases h
theorem e_tup {es : Exs} {ps : List Expr} {k : Nat} {pos : Pos} (hl : ps.length ≤ 1000) (hm : mtL p.nm X.N es sc ps = true) (h : PA X ps (lA p.G B (tL p n es E))) : PE X (.Tuple ps k pos) (lE p.G B (tE p n (.tup es) E)) :=
  PE.weak (pe_tup h) fun σ H Q q => by
    obtain ⟨ms, S, σI, a, q⟩ := q
    have q := mtL_len hm q
    refine lA_into es a q fun d S' v ms' H' g s r q => ?_
    obtain ⟨hl2, q⟩ := q
    split at q
    · rename_i l e
      have rt := frz0 r e
      have hlv := r.length
      exact ⟨by rw [sizeLine_eq]; omega, fun pp hpp => pst_tup s (fun v ms2 H2 g2 s2 r2 => q _ _ _ (g.trans g2) s2 r2) rt pp hpp⟩
    · exact q.elim
theorem pst_outD {Q : VK} {ms H S} {l : List D} {xs : List V} (s : Sim p.G ms H S) (q : pst p.G ms H Q (.r S.length) (S ++ [.lsD l])) (r : RDs p.G ms H l xs) : ∀ pp, H pp = none → Q (.ref pp) (upd H pp (.lst xs)) := fun pp hp => by
  refine q _ _ _ (Grow.alloc hp _) (s.alloc hp _ (.lsD upd_same (r.grow (Grow.alloc hp _)))) (.r ?_)
  rw [← s.len]
  exact nth_app_len
theorem e_lst {m : Bool} {es : Exs} {ps : List Expr} {pos : Pos} (hl : ps.length ≤ 1000) (hm : mtL p.nm X.N es sc ps = true) (h : PA X ps (lA p.G B (tL p n es E))) : PE X (.List ps pos) (lE p.G B (tE p n (.lst m es) E)) :=
  PE.weak (pe_lst h) fun σ H Q q => by
    obtain ⟨ms, S, σI, a, q⟩ := q
    have q := mtL_len hm q
    refine lA_into es a q fun d S' v ms' H' g s r q => ?_
    obtain ⟨hl2, q⟩ := q
    have hlv := r.length
    refine ⟨by rw [sizeLine_eq]; omega, ?_⟩
    split at q
    · rename_i l e
      exact pst_outL s (outL_mono (fun d S q v ms2 H2 g2 s2 r2 => q _ _ _ (g.trans g2) s2 r2) q) (frz0 r e)
    · split at q
      · exact pst_outD s (fun v ms2 H2 g2 s2 r2 => q _ _ _ (g.trans g2) s2 r2) r
      · exact q.elim
theorem e_dct {m : Bool} {pos : Pos} : PE X (.Dict [] [] pos) (lE p.G B (tE p n (.dct m [] .nil) E)) :=
  PE.weak pe_dnewK fun σ H Q q => by
    obtain ⟨ms, S, σI, a, q⟩ := q
    intro pp hp
    cases m with
    | false => exact (show pst p.G ms H Q (.t (.dct [])) S from q) _ _ _ (Grow.laid a.sm hp _) (a.sm.laid hp _) (.t (.dct upd_same (a.sm.fresh hp) .nil))
    | true =>
      refine (show pst p.G ms H Q (.r S.length) (S ++ [.dct []]) from q) _ _ _ (Grow.alloc hp _) (a.sm.alloc hp _ (.dct upd_same .nil)) (.r ?_)
      rw [← a.sm.len]
      exact nth_app_len
/-! ### slices -/
def lO (p : Pg) (n : Nat) (B : Bs) (o : Exo) (E : XPost) : TO := fun σ H Q => ∃ ms S σI, At p.G B ms H S σI σ ∧ wpO (cfp p n) p.ge p.up o E σI S fun i S' => ∀ ms' H', Grow ms H ms' H' → Sim p.G ms' H' S' → Q i H'
theorem o_no : PO X none (lO p n B .no E) := ⟨fun pins s σ H Q I q => by
  obtain ⟨ms, S, σI, a, q⟩ := q
  exact po_none.run pins s σ H Q I (q _ _ .refl a.sm)⟩
theorem o_so {e : Ex} {pe : Expr} (h : PE X pe (lE p.G B (tE p n e E))) : PO X (some pe) (lO p n B (.so e) E) := ⟨fun pins s σ H Q I q => by
  obtain ⟨ms, S, σI, a, q⟩ := q
  refine (po_some h).run pins s σ H Q I ?_
  refine lE_into (mE e E) a q fun d S' v ms' H' g s r q => ?_
  split at q
  · rename_i i
    exact ⟨i, r.intE, q _ _ g s⟩
  · exact q.elim⟩
theorem lO_into (o : Exo) {ms H S σI σ} {k : Option Int → Sto → Prop} {R : Option Int → Hp → Prop} (a : At p.G B ms H S σI σ) (h : wpO (cfp p n) p.ge p.up o E σI S k)
    (hk : ∀ i S' ms' H', Grow ms H ms' H' → Sim p.G ms' H' S' → k i S' → R i H') : lO p n B o E σ H R :=
  ⟨ms, S, σI, a, wpO_mono (cfn_mono n) o (fun _ _ _ q => q) (fun i S' q ms' H' g s => hk i S' ms' H' g s q) h⟩
theorem e_sl {m : Bool} {a : Ex} {lo hi : Exo} {pa : Expr} {plo phi : Option Expr} {p2 pos : Pos} (ok : XOk p X sc n) (ha : PE X pa (lE p.G B (tE p n a E))) (hl : PO X plo (lO p n B lo E)) (hu : PO X phi (lO p n B hi E)) :
    PE X (.Subscript pa (.Slice plo phi none p2) pos) (lE p.G B (tE p n (.sl m a lo hi) E)) :=
  PE.weak (pe_slice (sl_ok ok.K m) ha hl hu) fun σ H Q q => by
    obtain ⟨ms, S, σI, at_, q⟩ := q
    refine lE_into (mE a E) at_ q fun d S1 v ms1 H1 g1 s1 r1 q => ?_
    refine lO_into lo (at_.next g1 s1) q fun l S2 ms2 H2 g2 s2 q => ?_
    refine lO_into hi ((at_.next g1 s1).next g2 s2) q fun u S3 ms3 H3 g3 s3 q => ?_
    exact ⟨ms3, S3, d, s3, (r1.grow g2).grow g3, slD_mono (fun d S q v ms4 H4 g4 s4 r4 => q _ _ _ (((g1.trans g2).trans g3).trans g4) s4 r4) q⟩
theorem e_rev {a : Ex} {pa : Expr} {k : Nat} {p1 p2 p3 pos : Pos} (ok : XOk p X sc n) (ha : PE X pa (lE p.G B (tE p n a E))) :
    PE X (.Subscript pa (.Slice none none (some (.UnaryOp .USub (.Constant (.int 1) k p1) p2)) p3) pos) (lE p.G B (tE p n (.rev a) E)) :=
  PE.weak (pe_rev ha) fun σ H Q q => by
    obtain ⟨ms, S, σI, at_, q⟩ := q
    refine lE_into (mE a E) at_ q fun d S1 v ms1 H1 g1 s1 r1 q => ?_
    have q := revD_mono (Q' := pst p.G ms1 H1 Q) (fun d S q v ms4 H4 g4 s4 r4 => q _ _ _ (g1.trans g4) s4 r4) q
    unfold revD at q
    split at q
    · rename_i l e
      obtain ⟨a1, xs, rfl, t1, r2⟩ := (rdT_ok s1 r1 e).tup
      exact ⟨a1, xs, rfl, .inr ⟨ok.K ▸ t1.sq, pst_tup s1 q r2.reverse⟩⟩
    · rename_i l e
      obtain ⟨a1, xs, rfl, t1, r2⟩ := (rdT_ok s1 r1 e).lstE
      exact ⟨a1, xs, rfl, .inl ⟨SqL.of t1, pst_outL (m := false) s1 q r2.reverse⟩⟩
    · exact q.elim
end
end MP

set_option Elab.async false
set_option linter.all false
set_option maxRecDepth 100000
set_option maxHeartbeats 1000000
namespace MP
open PySem L2 PySem.Spec
open PyProof.Rows hiding St
section
variable {p : Pg} {n : Nat} {X : Cx} {sc : Scope} {B : Bs} {E : XPost}
/-! ### tests and chains -/
theorem hu64 (ok : XOk p X sc n) : X.A.units + 64 < cLine := ok.room.units
theorem hu1 (ok : XOk p X sc n) : X.A.units + 1 < cLine := by have := hu64 ok; omega
/-- a chain of comparisons from a value on -/
abbrev tCh (p : Pg) (n : Nat) (d : D) (cs : Cms) (E : XPost) : Sg → Sto → Post → Prop := fun σ S Q => wpC (cfp p n) p.ge p.up d cs E σ S Q
theorem mC (d : D) (cs : Cms) (E : XPost) : MonoE (tCh p n d cs E) := fun _ _ _ _ h q => wpC_mono (cfn_mono n) d cs (fun _ _ _ q => q) h q
structure PCh (p : Pg) (n : Nat) (X : Cx) (B : Bs) (E : XPost) (cs : Cms) (ops : List CmpOp) (es : List Expr) : Prop where
  val : ∀ (pos : Pos) (pins : List (Addr × Obj)) (s : Shared) (σ : L2.St) (H : Hp) (ms : Md) (S : Sto) (σI : Sg) (d : D) (x : V) (v : Value) (Q : VK), Inv X pins σ H s → At p.G B ms H S σI σ → RD p.G ms H d x → RelV x v → tCh p n d cs E σI S (pst p.G ms H Q) →
    wpAny (model X.prog X.w) X.A (compareChain pos v ops (evalEach es X.env)) (EP X pins σ Q) X.xe s
  tst : ∀ (pos : Pos) (pins : List (Addr × Obj)) (s : Shared) (σ : L2.St) (H : Hp) (ms : Md) (S : Sto) (σI : Sg) (d : D) (x : V) (v : Value) (Q : Bool → Hp → Prop), Inv X pins σ H s → At p.G B ms H S σI σ → RD p.G ms H d x → RelV x v →
    tCh p n d cs E σI S (fun d S' => tru d S' fun b => ∀ ms' H', Grow ms H ms' H' → Sim p.G ms' H' S' → Q b H') →
    wpAny (model X.prog X.w) X.A (testChain pos v ops (evalEach es X.env)) (TP X pins σ Q) X.xe s
  len : ∃ o os e r, ops = o :: os ∧ es = e :: r
  marks : lastMarks ops es = false
/-- one comparison of values -/
theorem cmp_run (ok : XOk p X sc n) (o : CO) {pins : List (Addr × Obj)} {s : Shared} {σ : L2.St} {H : Hp} {ms S} {dx dy : D} {x y : V} {v u : Value} {k : Post} {R : Value → Shared → Prop} (I : Inv X pins σ H s) (sm : Sim p.G ms H S) (hx : RD p.G ms H dx x) (hy : RD p.G ms H dy y)
    (rx : RelV x v) (ry : RelV y u) (q : cmpD o dx dy S k)
    (hk : ∀ d S' c u' s' ms' H', Grow ms H ms' H' → Sim p.G ms' H' S' → Inv X pins σ H' s' → RD p.G ms' H' d c → RelV c u' → k d S' → R u' s') :
    wpAny (model X.prog X.w) X.A (compareOp (copOf o) v u) R X.xe s := by
  refine thn (cmp_ok ok.K (hu64 ok) o pins s σ H x y v u (fun c H' => ∃ d S' ms', Grow ms H ms' H' ∧ Sim p.G ms' H' S' ∧ RD p.G ms' H' d c ∧ k d S') I rx ry ⟨ms, S, dx, dy, sm, hx, hy, cmpD_mono (fun d S' q v ms' H' g s r => ⟨d, S', ms', g, s, r, q⟩) q⟩) fun u' s' hq => ?_
  obtain ⟨c, H', I', r, d, S', ms', g, s2, rd, q⟩ := hq
  exact hk d S' c u' s' ms' H' g s2 I' rd r q
theorem ch_one {o : CO} {e : Ex} {pe : Expr} (ok : XOk p X sc n) (hp : plainE pe = true) (h : PE X pe (lE p.G B (tE p n e E))) : PCh p n X B E (.one o e) [copOf o] [pe] where
  val := fun pos pins s σ H ms S σI d x v Q I a hd rx q => by
    refine chain_last (thn (h.run pins s σ H (fun y H' => ∃ ms' S' dy, Grow ms H ms' H' ∧ Sim p.G ms' H' S' ∧ RD p.G ms' H' dy y ∧ cmpD o d dy S' (pst p.G ms H Q)) I (lE_into (mE e E) a q fun dy S' y ms' H' g s r q => ⟨ms', S', dy, g, s, r, q⟩)) fun u s1 hq => ?_)
    obtain ⟨y, H1, I1, ry, ms1, S1, dy, g1, sm1, rdy, q⟩ := hq
    exact cmp_run ok o I1 sm1 (hd.grow g1) rdy rx ry q fun d S' c u' s' ms' H' g s2 I' rd r q => ⟨c, H', I', r, q _ _ _ (g1.trans g) s2 rd⟩
  tst := fun pos pins s σ H ms S σI d x v Q I a hd rx q => by
    refine test_last (thn (h.run pins s σ H (fun y H' => ∃ ms' S' dy, Grow ms H ms' H' ∧ Sim p.G ms' H' S' ∧ RD p.G ms' H' dy y ∧ cmpD o d dy S' (fun d S' => tru d S' fun b => ∀ ms' H', Grow ms H ms' H' → Sim p.G ms' H' S' → Q b H')) I (lE_into (mE e E) a q fun dy S' y ms' H' g s r q => ⟨ms', S', dy, g, s, r, q⟩)) fun u s1 hq => ?_)
    obtain ⟨y, H1, I1, ry, ms1, S1, dy, g1, sm1, rdy, q⟩ := hq
    refine cmp_run ok o I1 sm1 (hd.grow g1) rdy rx ry q fun d S' c u' s' ms' H' g s2 I' rd r q => ?_
    obtain ⟨b, h1, h2⟩ := tru_of ok.K s2 rd q
    exact tru_ok pins s' σ H' c u' Q I' r ⟨b, h1, h2 _ _ (g1.trans g) s2⟩
  len := ⟨_, _, _, _, rfl, rfl⟩
  marks := mark_plain hp
theorem ch_cons {o : CO} {e : Ex} {r : Cms} {pe : Expr} {ops : List CmpOp} {es : List Expr} (ok : XOk p X sc n) (h : PE X pe (lE p.G B (tE p n e E))) (hr : PCh p n X B E r ops es) : PCh p n X B E (.cons o e r) (copOf o :: ops) (pe :: es) where
  val := fun pos pins s σ H ms S σI d x v Q I a hd rx q => by
    obtain ⟨o', os, e', rs, rfl, rfl⟩ := hr.len
    refine chain_link (thn (h.run pins s σ H (fun y H' => ∃ ms' S' dy, Grow ms H ms' H' ∧ Sim p.G ms' H' S' ∧ RD p.G ms' H' dy y ∧ cmpD o d dy S' fun d S2 => match d with
      | .t (.bl b) => br b (wpC (cfp p n) p.ge p.up dy r E σI S2 (pst p.G ms H Q)) (pst p.G ms H Q (.t (.bl false)) S2)
      | _ => False) I (lE_into (mE e E) a q fun dy S' y ms' H' g s r q => ⟨ms', S', dy, g, s, r, q⟩)) fun u s1 hq => ?_)
    obtain ⟨y, H1, I1, ry, ms1, S1, dy, g1, sm1, rdy, q⟩ := hq
    refine cmp_run ok o I1 sm1 (hd.grow g1) rdy rx ry q fun d S' c u' s' ms' H' g s2 I' rd rr q => ?_
    split at q
    · rename_i b
      cases rd with | t rd => cases rd with | bl _ =>
      cases rr
      refine wpAny_truthy_bool ?_
      have g' := g1.trans g
      cases b with
      | true =>
        refine ite_tt (hr.val pos pins s' σ H' ms' S' σI dy y u Q I' (a.next g' s2) (rdy.grow g) ry ?_)
        exact mC _ _ _ _ _ _ _ (fun d S q v ms2 H2 g2 s3 r3 => q _ _ _ (g'.trans g2) s3 r3) q
      | false => exact ite_ff ⟨.bl false, H', I', rfl, q _ _ _ g' s2 (.t (.bl false))⟩
    · exact q.elim
  tst := fun pos pins s σ H ms S σI d x v Q I a hd rx q => by
    obtain ⟨o', os, e', rs, rfl, rfl⟩ := hr.len
    refine test_link (thn (h.run pins s σ H (fun y H' => ∃ ms' S' dy, Grow ms H ms' H' ∧ Sim p.G ms' H' S' ∧ RD p.G ms' H' dy y ∧ cmpD o d dy S' fun d S2 => match d with
      | .t (.bl b) => br b (wpC (cfp p n) p.ge p.up dy r E σI S2 (fun d S' => tru d S' fun b => ∀ ms' H', Grow ms H ms' H' → Sim p.G ms' H' S' → Q b H')) (tru (.t (.bl false)) S2 fun b => ∀ ms' H', Grow ms H ms' H' → Sim p.G ms' H' S2 → Q b H')
      | _ => False) I (lE_into (mE e E) a q fun dy S' y ms' H' g s r q => ⟨ms', S', dy, g, s, r, q⟩)) fun u s1 hq => ?_)
    obtain ⟨y, H1, I1, ry, ms1, S1, dy, g1, sm1, rdy, q⟩ := hq
    refine cmp_run ok o I1 sm1 (hd.grow g1) rdy rx ry q fun d S' c u' s' ms' H' g s2 I' rd rr q => ?_
    split at q
    · rename_i b
      cases rd with | t rd => cases rd with | bl _ =>
      cases rr
      refine wpAny_truthy_bool ?_
      have g' := g1.trans g
      cases b with
      | true =>
        refine ite_tt (hr.tst pos pins s' σ H' ms' S' σI dy y u Q I' (a.next g' s2) (rdy.grow g) ry ?_)
        exact mC _ _ _ _ _ _ _ (fun d S q => tru_mono (fun b q ms2 H2 g2 s3 => q _ _ (g'.trans g2) s3) q) q
      | false => exact ite_ff ⟨H', I', (show ∀ ms' H', Grow ms H ms' H' → Sim p.G ms' H' S' → Q false H' from q) _ _ g' s2⟩
    · exact q.elim
  len := ⟨_, _, _, _, rfl, rfl⟩
  marks := by
    obtain ⟨o', os, e', rs, rfl, rfl⟩ := hr.len
    have := hr.marks
    cases os <;> cases rs <;> simpa [lastMarks] using this
theorem e_cmp {a : Ex} {cs : Cms} {pa : Expr} {ops : List CmpOp} {es : List Expr} {pos : Pos} (ok : XOk p X sc n) (ha : PE X pa (lE p.G B (tE p n a E))) (hc : PCh p n X B E cs ops es) :
    PE X (.Compare pa ops es pos) (lE p.G B (tE p n (.cmp a cs) E)) ∧ PT X (.Compare pa ops es pos) (lT p.G B (tE p n (.cmp a cs) E)) := by
  obtain ⟨o, os, e, r, rfl, rfl⟩ := hc.len
  have hev : ∀ (Q : Value → Shared → Prop) (s : Shared), wpAny (model X.prog X.w) X.A (eval pa X.env) (fun v s₁ => wpAny (model X.prog X.w) X.A (compareChain pos v (o :: os) (evalEach (e :: r) X.env)) Q X.xe s₁) X.xe s →
      wpAny (model X.prog X.w) X.A (eval (.Compare pa (o :: os) (e :: r) pos) X.env) Q X.xe s := fun Q s h => by
    show wpAny _ _ (do compareChain pos (← eval pa X.env) (o :: os) (markedEach (o :: os) (e :: r) (evalEach (e :: r) X.env))) _ _ _
    rw [markedEach_of_false _ _ _ hc.marks]
    exact wpAny_bind h
  have hte : ∀ (wh : Sem Value) (Q : Bool → Shared → Prop) (s : Shared), wpAny (model X.prog X.w) X.A (eval pa X.env) (fun v s₁ => wpAny (model X.prog X.w) X.A (testChain pos v (o :: os) (evalEach (e :: r) X.env)) Q X.xe s₁) X.xe s →
      wpAny (model X.prog X.w) X.A (isTrue (.Compare pa (o :: os) (e :: r) pos) X.env wh) Q X.xe s := fun wh Q s h => by
    show wpAny _ _ (do testChain pos (← eval pa X.env) (o :: os) (markedEach (o :: os) (e :: r) (evalEach (e :: r) X.env))) _ _ _
    rw [markedEach_of_false _ _ _ hc.marks]
    exact wpAny_bind h
  constructor
  · refine ⟨fun pins s σ H Q I q => hev _ _ ?_⟩
    obtain ⟨ms, S, σI, at_, q⟩ := q
    refine thn (ha.run pins s σ H (fun x H' => ∃ ms' S' dx, Grow ms H ms' H' ∧ Sim p.G ms' H' S' ∧ RD p.G ms' H' dx x ∧ wpC (cfp p n) p.ge p.up dx cs E σI S' (pst p.G ms H Q)) I (lE_into (mE a E) at_ q fun dy S' y ms' H' g s r q => ⟨ms', S', dy, g, s, r, q⟩)) fun v s1 hq => ?_
    obtain ⟨x, H1, I1, rx, ms1, S1, dx, g1, sm1, rdx, q⟩ := hq
    exact hc.val pos pins s1 σ H1 ms1 S1 σI dx x v Q I1 (at_.next g1 sm1) rdx rx (mC _ _ _ _ _ _ _ (fun d S q v ms2 H2 g2 s3 r3 => q _ _ _ (g1.trans g2) s3 r3) q)
  · refine ⟨fun pins s σ H Q I q => hte _ _ _ ?_⟩
    obtain ⟨ms, S, σI, at_, q⟩ := q
    refine thn (ha.run pins s σ H (fun x H' => ∃ ms' S' dx, Grow ms H ms' H' ∧ Sim p.G ms' H' S' ∧ RD p.G ms' H' dx x ∧ wpC (cfp p n) p.ge p.up dx cs E σI S' (fun d S' => tru d S' fun b => ∀ ms' H', Grow ms H ms' H' → Sim p.G ms' H' S' → Q b H')) I (lE_into (mE a E) at_ q fun dy S' y ms' H' g s r q => ⟨ms', S', dy, g, s, r, q⟩)) fun v s1 hq => ?_
    obtain ⟨x, H1, I1, rx, ms1, S1, dx, g1, sm1, rdx, q⟩ := hq
    exact hc.tst pos pins s1 σ H1 ms1 S1 σI dx x v Q I1 (at_.next g1 sm1) rdx rx (mC _ _ _ _ _ _ _ (fun d S q => tru_mono (fun b q ms2 H2 g2 s3 => q _ _ (g1.trans g2) s3) q) q)
/-! ### not, and, or -/
theorem lT_into {t : Sg → Sto → Post → Prop} (m : MonoE t) {ms H S σI σ} {k : Post} {R : Bool → Hp → Prop} (a : At p.G B ms H S σI σ) (h : t σI S k)
    (hk : ∀ d S', k d S' → tru d S' fun b => ∀ ms' H', Grow ms H ms' H' → Sim p.G ms' H' S' → R b H') : lT p.G B t σ H R :=
  ⟨ms, S, σI, a, m _ _ _ _ hk h⟩
theorem e_not {a : Ex} {pa : Expr} {pos : Pos} (ok : XOk p X sc n) (ha : PE X pa (lE p.G B (tE p n a E))) (hT : PT X pa (lT p.G B (tE p n a E))) :
    PE X (.UnaryOp .Not pa pos) (lE p.G B (tE p n (.not a) E)) ∧ PT X (.UnaryOp .Not pa pos) (lT p.G B (tE p n (.not a) E)) := by
  constructor
  · refine PE.weak (pe_notT ha) fun σ H Q q => ?_
    obtain ⟨ms, S, σI, at_, q⟩ := q
    refine lE_into (mE a E) at_ q fun d S' v ms' H' g s r q => ?_
    obtain ⟨b, h1, h2⟩ := tru_of ok.K s r q
    exact ⟨b, h1, h2 _ _ _ g s (.t (.bl _))⟩
  · refine PT.weak (pt_not hT) fun σ H Q q => ?_
    obtain ⟨ms, S, σI, at_, q⟩ := q
    exact lT_into (mE a E) at_ q fun d S' q => tru_mono (fun b q => q) q
/-- and, or: values and tests, over the list of parts -/
abbrev tB (p : Pg) (n : Nat) (o : Bool) (es : Exs) (E : XPost) : Sg → Sto → Post → Prop := fun σ S Q => wpB (cfp p n) p.ge p.up o es E σ S Q
theorem mB (o : Bool) (es : Exs) (E : XPost) : MonoE (tB p n o es E) := fun _ _ _ _ h q => wpB_mono (cfn_mono n) o es (fun _ _ _ q => q) h q
def bop (o : Bool) : BoolOp := if o then .Or else .And
structure PBo (p : Pg) (n : Nat) (X : Cx) (B : Bs) (E : XPost) (o : Bool) (es : Exs) (ps : List Expr) : Prop where
  val : ∀ pos, PE X (.BoolOp (bop o) ps pos) (lE p.G B (tB p n o es E))
  tst : ∀ pos, PW X (.BoolOp (bop o) ps pos) (lT p.G B (tB p n o es E))
  ne : ∃ q r, ps = q :: r
theorem lE_eq {t t' : Sg → Sto → Post → Prop} (h : ∀ σ S Q, t σ S Q → t' σ S Q) {σ H Q} (q : lE p.G B t σ H Q) : lE p.G B t' σ H Q := by
  obtain ⟨ms, S, σI, at_, q⟩ := q
  exact ⟨ms, S, σI, at_, h _ _ _ q⟩
theorem lT_eq {t t' : Sg → Sto → Post → Prop} (h : ∀ σ S Q, t σ S Q → t' σ S Q) {σ H Q} (q : lT p.G B t σ H Q) : lT p.G B t' σ H Q := by
  obtain ⟨ms, S, σI, at_, q⟩ := q
  exact ⟨ms, S, σI, at_, h _ _ _ q⟩
theorem bo_one {o : Bool} {e : Ex} {pe : Expr} (h : PE X pe (lE p.G B (tE p n e E))) (hT : PT X pe (lT p.G B (tE p n e E))) : PBo p n X B E o (.cons e .nil) [pe] where
  val := fun pos => PE.weak (pe_one h) fun σ H Q q => lE_eq (fun _ _ _ q => by unfold tB wpB at q; exact q) q
  tst := fun pos => by
    have k : ∀ σ H Q, lT p.G B (tB p n o (.cons e .nil) E) σ H Q → lT p.G B (tE p n e E) σ H Q := fun σ H Q q => lT_eq (fun _ _ _ q => by unfold tB wpB at q; exact q) q
    cases o with
    | false => exact PW.weak (pw_and1 hT) k
    | true => exact PW.weak (pw_or1 hT) k
  ne := ⟨_, _, rfl⟩
theorem bo_cons {o : Bool} {e e' : Ex} {r : Exs} {pe : Expr} {ps : List Expr} (ok : XOk p X sc n) (h : PE X pe (lE p.G B (tE p n e E))) (hT : PT X pe (lT p.G B (tE p n e E))) (hr : PBo p n X B E o (.cons e' r) ps) : PBo p n X B E o (.cons e (.cons e' r)) (pe :: ps) where
  val := fun pos => by
    obtain ⟨q1, r1, rfl⟩ := hr.ne
    cases o with
    | false =>
      refine PE.weak (pe_andT h (hr.val pos)) fun σ H Q q => ?_
      obtain ⟨ms, S, σI, at_, q⟩ := q
      unfold tB wpB at q
      refine lE_into (mE e E) at_ q fun d S' v ms' H' g s rd q => ?_
      obtain ⟨b, h1, h2⟩ := tru_of ok.K s rd q
      refine ⟨b, h1, ?_⟩
      cases b with
      | true => exact iteT ⟨ms', S', σI, at_.next g s, mB _ _ _ _ _ _ _ (fun d S q v ms2 H2 g2 s3 r3 => q _ _ _ (g.trans g2) s3 r3) h2⟩
      | false => exact iteF ((show pst p.G ms H Q d S' from h2) _ _ _ g s rd)
    | true =>
      refine PE.weak (pe_orT h (hr.val pos)) fun σ H Q q => ?_
      obtain ⟨ms, S, σI, at_, q⟩ := q
      unfold tB wpB at q
      refine lE_into (mE e E) at_ q fun d S' v ms' H' g s rd q => ?_
      obtain ⟨b, h1, h2⟩ := tru_of ok.K s rd q
      refine ⟨b, h1, ?_⟩
      cases b with
      | false => exact iteF ⟨ms', S', σI, at_.next g s, mB _ _ _ _ _ _ _ (fun d S q v ms2 H2 g2 s3 r3 => q _ _ _ (g.trans g2) s3 r3) h2⟩
      | true => exact iteT ((show pst p.G ms H Q d S' from h2) _ _ _ g s rd)
  tst := fun pos => by
    obtain ⟨q1, r1, rfl⟩ := hr.ne
    cases o with
    | false =>
      refine PW.weak (pw_and hT (hr.tst pos)) fun σ H Q q => ?_
      obtain ⟨ms, S, σI, at_, q⟩ := q
      unfold tB wpB at q
      refine lT_into (mE e E) at_ q fun d S' q => ?_
      revert q
      refine tru_two (fun b hb q ms' H' g s => ?_)
      cases b with
      | true => exact iteT ⟨ms', S', σI, at_.next g s, mB _ _ _ _ _ _ _ (fun d S q => tru_mono (fun b q ms2 H2 g2 s3 => q _ _ (g.trans g2) s3) q) q⟩
      | false => exact iteF (hb (show tru d S' (fun b => ∀ ms' H', Grow ms H ms' H' → Sim p.G ms' H' S' → Q b H') from q) _ _ g s)
    | true =>
      refine PW.weak (pw_or hT (hr.tst pos)) fun σ H Q q => ?_
      obtain ⟨ms, S, σI, at_, q⟩ := q
      unfold tB wpB at q
      refine lT_into (mE e E) at_ q fun d S' q => ?_
      revert q
      refine tru_two (fun b hb q ms' H' g s => ?_)
      cases b with
      | false => exact iteF ⟨ms', S', σI, at_.next g s, mB _ _ _ _ _ _ _ (fun d S q => tru_mono (fun b q ms2 H2 g2 s3 => q _ _ (g.trans g2) s3) q) q⟩
      | true => exact iteT (hb (show tru d S' (fun b => ∀ ms' H', Grow ms H ms' H' → Sim p.G ms' H' S' → Q b H') from q) _ _ g s)
  ne := ⟨_, _, rfl⟩
end
end MP

set_option Elab.async false
set_option linter.all false
set_option maxRecDepth 100000
set_option maxHeartbeats 1000000
namespace MP
open PySem L2 PySem.Spec
open PyProof.Rows hiding St
/-! ### sub-stores -/
theorem hasN_iff {l : List Nat} {n : Nat} : hasN l n = true ↔ n ∈ l := by
  induction l with
  | nil => simp [hasN]
  | cons x r ih =>
    unfold hasN
    by_cases h : x = n
    · rw [if_pos h]; simp [h]
    · rw [if_neg h, ih, List.mem_cons]
      constructor
      · exact .inr
      · rintro (q | q)
        · exact absurd q.symm h
        · exact q
theorem nodN_iff {l : List Nat} (h : nodN l = true) : l.Nodup := by
  induction l with
  | nil => simp
  | cons x r ih =>
    unfold nodN at h
    rw [Bool.and_eq_true, Bool.not_eq_true'] at h
    refine List.nodup_cons.mpr ⟨fun q => ?_, ih h.2⟩
    rw [hasN_iff.mpr q] at h
    exact nomatch h.1
theorem posN_nth {l : List Nat} {n : Nat} (h : n ∈ l) : nth l (posN l n) = some n := by
  induction l with
  | nil => cases h
  | cons x r ih =>
    unfold posN
    by_cases q : x = n
    · rw [if_pos q, q]; rfl
    · rw [if_neg q]
      rcases List.mem_cons.mp h with z | z
      · exact absurd z.symm q
      · exact ih z
def bakN (rs : List Nat) (k j : Nat) : Nat := match nth rs j with
  | some n => n
  | none => k + (j - rs.length)
theorem bakD_r {rs k j} : bakD rs k (.r j) = .r (bakN rs k j) := by
  simp only [bakD, bakN]
  cases nth rs j <;> rfl
theorem bakOs_len {rs k} : ∀ {l : Sto}, (bakOs rs k l).length = l.length
  | [] => rfl
  | _ :: r => congrArg (· + 1) (bakOs_len (l := r))
theorem bakOs_nth {rs k} : ∀ {l : Sto} {j o}, nth (bakOs rs k l) j = some o → ∃ o', nth l j = some o' ∧ o = bakO rs k o'
  | [], j, o, h => by cases h
  | x :: r, 0, o, h => by
    cases h
    exact ⟨x, rfl, rfl⟩
  | x :: r, j + 1, o, h => bakOs_nth (l := r) h
theorem bakF_len {rs k} : ∀ {l}, (bakF rs k l).length = l.length
  | [] => rfl
  | none :: r => congrArg (· + 1) (bakF_len (l := r))
  | some _ :: r => congrArg (· + 1) (bakF_len (l := r))
theorem renF_len {rs} : ∀ {l}, (renF rs l).length = l.length
  | [] => rfl
  | none :: r => congrArg (· + 1) (renF_len (l := r))
  | some _ :: r => congrArg (· + 1) (renF_len (l := r))
theorem bakS_spec {rs k} : ∀ {ns : List Nat} {S os : Sto}, ns.Nodup → (∀ n ∈ ns, n < S.length) → ns.length ≤ os.length →
    (bakS rs k ns S os).length = S.length + (os.length - ns.length) ∧
    ∀ m o, nth (bakS rs k ns S os) m = some o → (∃ i o', nth ns i = some m ∧ nth os i = some o' ∧ o = bakO rs k o') ∨ (m ∉ ns ∧ nth S m = some o) ∨ (∃ j o', m = S.length + j ∧ nth os (ns.length + j) = some o' ∧ o = bakO rs k o')
  | [], S, [], _, _, _ => by
    unfold bakS
    exact ⟨by simp, fun m o h => .inr (.inl ⟨by simp, h⟩)⟩
  | [], S, x :: os, _, _, _ => by
    unfold bakS
    refine ⟨by rw [List.length_append, bakOs_len]; simp, fun m o h => ?_⟩
    by_cases hm : m < S.length
    · rw [nth_app_lt hm] at h
      exact .inr (.inl ⟨by simp, h⟩)
    · rw [nth_eq, List.getElem?_append_right (by omega), ← nth_eq] at h
      obtain ⟨o', h1, h2⟩ := bakOs_nth h
      exact .inr (.inr ⟨m - S.length, o', by omega, by simpa using h1, h2⟩)
  | n :: ns, S, [], _, _, h => by simp at h
  | n :: ns, S, x :: os, hd, hl, hz => by
    have hd' := List.nodup_cons.mp hd
    have hn : n < S.length := hl n (by simp)
    obtain ⟨i1, i2⟩ := bakS_spec (rs := rs) (k := k) (ns := ns) (S := S.set n (bakO rs k x)) (os := os) hd'.2 (fun m hm => by rw [List.length_set]; exact hl m (by simp [hm])) (by simpa using hz)
    unfold bakS
    refine ⟨by rw [i1]; simp, fun m o h => ?_⟩
    rcases i2 m o h with ⟨i, o', e1, e2, e3⟩ | ⟨e1, e2⟩ | ⟨j, o', e1, e2, e3⟩
    · exact .inl ⟨i + 1, o', e1, e2, e3⟩
    · by_cases hm : n = m
      · subst hm
        rw [nth_set_self hn] at e2
        cases e2
        exact .inl ⟨0, x, rfl, rfl, rfl⟩
      · rw [nth_set_ne hm] at e2
        exact .inr (.inl ⟨fun q => (List.mem_cons.mp q).elim (fun z => hm z.symm) e1, e2⟩)
    · refine .inr (.inr ⟨j, o', by rw [e1, List.length_set], ?_, e3⟩)
      rw [show (n :: ns).length + j = (ns.length + j) + 1 by simp; omega]
      exact e2
section
variable {G : Gx} {ms ms' m2 : Md} {H : Hp}
/-! ### other numbers for the same places -/
theorem RD.ren {f : Nat → Nat} (b : ∀ x, m2.bad x → ms.bad x ∨ H x = none) (k : ∀ j a, nth ms.a j = some a → nth m2.a (f j) = some a) {rn : D → D} (ht : ∀ x, rn (.t x) = .t x) (hr : ∀ j a, nth ms.a j = some a → rn (.r j) = .r (f j)) {d v} : RD G ms H d v → RD G m2 H (rn d) v
  | .t h => by rw [ht]; exact .t (h.cong b)
  | .r h => by rw [hr _ _ h]; exact .r (k _ _ h)
theorem RDs.bak {rs k0} (b : ∀ x, m2.bad x → ms.bad x ∨ H x = none) (k : ∀ j a, nth ms.a j = some a → nth m2.a (bakN rs k0 j) = some a) : ∀ {d v}, RDs G ms H d v → RDs G m2 H (bakL rs k0 d) v
  | _, _, .nil => .nil
  | _, _, .cons h r => .cons (RD.ren (f := bakN rs k0) b k (fun _ => rfl) (fun _ _ _ => bakD_r) h) (r.bak b k)
theorem RFs.bak {rs k0 c} (b : ∀ x, m2.bad x → ms.bad x ∨ H x = none) (k : ∀ j a, nth ms.a j = some a → nth m2.a (bakN rs k0 j) = some a) : ∀ {i d v}, RFs G ms H c i d v → RFs G m2 H c i (bakF rs k0 d) v
  | _, _, _, .nil => .nil
  | _, _, _, .no h => .no (h.bak b k)
  | _, _, _, .so h r => .so (RD.ren (f := bakN rs k0) b k (fun _ => rfl) (fun _ _ _ => bakD_r) h) (r.bak b k)
theorem RO.bak {rs k0} (b : ∀ x, m2.bad x → ms.bad x ∨ H x = none) (k : ∀ j a, nth ms.a j = Option.some a → nth m2.a (bakN rs k0 j) = Option.some a) {o a} : RO G ms H o a → RO G m2 H (bakO rs k0 o) a
  | .lst h r => .lst h (r.cong b)
  | .lsD h r => .lsD h (r.bak b k)
  | .dct h r => .dct h (r.cong b)
  | .ins h r z => .ins h (r.bak b k) (by rw [bakF_len]; exact z)
theorem RDs.rn {rs} (b : ∀ x, m2.bad x → ms.bad x ∨ H x = none) (k : ∀ n a, n ∈ rs → nth ms.a n = some a → nth m2.a (posN rs n) = some a) : ∀ {d v}, RDs G ms H d v → refsInD rs d = true → RDs G m2 H (renL rs d) v
  | _, _, .nil, _ => .nil
  | .t x :: _, _, .cons (.t h) r, e => .cons (.t (h.cong b)) (r.rn b k e)
  | .r n :: _, _, .cons (.r h) r, e => by
    unfold refsInD at e
    rw [Bool.and_eq_true] at e
    exact .cons (.r (k _ _ (hasN_iff.mp e.1) h)) (r.rn b k e.2)
theorem RFs.rn {rs c} (b : ∀ x, m2.bad x → ms.bad x ∨ H x = none) (k : ∀ n a, n ∈ rs → nth ms.a n = some a → nth m2.a (posN rs n) = some a) : ∀ {i d v}, RFs G ms H c i d v → refsInF rs d = true → RFs G m2 H c i (renF rs d) v
  | _, _, _, .nil, _ => .nil
  | _, _, _, .no h, e => .no (h.rn b k e)
  | _, some (.t x) :: _, _, .so (.t h) r, e => .so (.t (h.cong b)) (r.rn b k e)
  | _, some (.r n) :: _, _, .so (.r h) r, e => by
    unfold refsInF at e
    rw [Bool.and_eq_true] at e
    exact .so (.r (k _ _ (hasN_iff.mp e.1) h)) (r.rn b k e.2)
theorem RO.rn {rs} (b : ∀ x, m2.bad x → ms.bad x ∨ H x = none) (k : ∀ n a, n ∈ rs → nth ms.a n = Option.some a → nth m2.a (posN rs n) = Option.some a) {o a} (e : refsInO rs o = true) : RO G ms H o a → RO G m2 H (renO rs o) a
  | .lst h r => .lst h (r.cong b)
  | .lsD h r => .lsD h (r.rn b k e)
  | .dct h r => .dct h (r.cong b)
  | .ins h r z => .ins h (r.rn b k e) (by rw [renF_len]; exact z)
end
/-- the places of the numbers -/
def adrs (l : List Addr) : List Nat → List Addr
  | [] => []
  | n :: r => match nth l n with
    | some a => a :: adrs l r
    | none => 0 :: adrs l r
theorem adrs_len {l} : ∀ {R}, (adrs l R).length = R.length
  | [] => rfl
  | n :: r => by
    unfold adrs
    split <;> exact congrArg (· + 1) (adrs_len (R := r))
theorem adrs_nth {l} : ∀ {R : List Nat} {i n a}, nth R i = some n → nth l n = some a → nth (adrs l R) i = some a
  | [], i, n, a, h, e => by cases h
  | m :: r, 0, n, a, h, e => by
    cases h
    unfold adrs
    rw [e]; rfl
  | m :: r, i + 1, n, a, h, e => by
    unfold adrs
    split <;> exact adrs_nth (R := r) h e
theorem subOk_all {rs S} : ∀ {R : List Nat}, subOk rs S R = true → ∀ n ∈ R, ∃ o, nth S n = some o ∧ refsInO rs o = true
  | [], _, _, h => by cases h
  | m :: r, h, n, hn => by
    unfold subOk at h
    split at h
    · rename_i o e
      rw [Bool.and_eq_true] at h
      rcases List.mem_cons.mp hn with z | z
      · rw [z]; exact ⟨o, e, h.1⟩
      · exact subOk_all h.2 n z
    · cases h
theorem subS_nth {rs S} : ∀ {R : List Nat}, (∀ n ∈ R, ∃ o, nth S n = some o) → (subS rs S R).length = R.length ∧ ∀ i o, nth (subS rs S R) i = some o → ∃ n o', nth R i = some n ∧ nth S n = some o' ∧ o = renO rs o'
  | [], _ => ⟨rfl, fun i o h => by cases h⟩
  | m :: r, h => by
    obtain ⟨o, e⟩ := h m (by simp)
    obtain ⟨i1, i2⟩ := subS_nth (rs := rs) (S := S) (R := r) fun n hn => h n (by simp [hn])
    unfold subS
    rw [e]
    refine ⟨congrArg (· + 1) i1, fun i o' q => ?_⟩
    cases i with
    | zero => cases q; exact ⟨m, o, rfl, e, rfl⟩
    | succ i => exact i2 i o' q
theorem nth_add {α : Type} {l k : List α} {j : Nat} : nth (l ++ k) (l.length + j) = nth k j := by
  rw [nth_eq, nth_eq, List.getElem?_append_right (by omega)]; congr 1; omega
theorem nth_ge {α : Type} {l k : List α} {j : Nat} (h : l.length ≤ j) : nth (l ++ k) j = nth k (j - l.length) := by
  rw [nth_eq, nth_eq, List.getElem?_append_right h]
theorem nth_none {α : Type} {l : List α} {j : Nat} (h : nth l j = none) : l.length ≤ j := by
  rw [nth_eq] at h
  exact List.getElem?_eq_none_iff.mp h
section
variable {p : Pg} {n : Nat}
theorem cfn_len {f ds S Q E} (h : cfp p n f ds S Q E) : ∃ d, p.tab f = some d ∧ ds.length = d.np := by
  cases n with
  | zero => exact h.elim
  | succ n =>
    unfold cfp cfn at h
    split at h
    · rename_i d e
      exact ⟨d, e, h.1⟩
    · exact h.elim
/-- a call into a part of the store: R the numbers of the objects that it reaches; as their places -/
theorem back_ok {G : Gx} {ms : Md} {H : Hp} {S : Sto} (sm : Sim G ms H S) {R : List Nat} (hR : R.Nodup) (hS : ∀ m ∈ R, m < S.length) {ms' : Md} {H' : Hp} {S' : Sto} (g : Grow ⟨ms.f ++ ms.a, adrs ms.a R⟩ H ms' H') (s' : Sim G ms' H' S') :
    ∃ m2, Grow ms H m2 H' ∧ Sim G m2 H' (bakS R S.length R S S') ∧ (∀ x, m2.bad x → ms'.bad x ∨ H' x = none) ∧ ∀ j a, nth ms'.a j = some a → nth m2.a (bakN R S.length j) = some a := by
  obtain ⟨more, e, hm⟩ := g.pre
  simp only at e
  have hA : ∀ x ∈ adrs ms.a R, x ∈ ms.a := fun x hx => by
    obtain ⟨i, ei⟩ := nth_of_mem hx
    have hi : i < R.length := by rw [← adrs_len (l := ms.a)]; exact nth_lt ei
    obtain ⟨m, em⟩ := nth_some hi
    obtain ⟨a, ea⟩ := nth_some (l := ms.a) (n := m) (by rw [sm.len]; exact hS m (mem_of_nth em))
    have := adrs_nth em ea
    rw [ei] at this
    cases this
    exact mem_of_nth ea
  have hl' : R.length ≤ S'.length := by
    rw [← s'.len, e, List.length_append, adrs_len]; omega
  obtain ⟨b1, b2⟩ := bakS_spec (rs := R) (k := S.length) hR hS hl'
  have gr : Grow ms H ⟨ms.f, ms.a ++ more⟩ H' := ⟨⟨more, rfl, hm⟩, rfl, fun a o h q => g.keep a o h fun z => q (hA a z), g.stay⟩
  have bd : ∀ x, (⟨ms.f, ms.a ++ more⟩ : Md).bad x → ms'.bad x ∨ H' x = none := fun x h => by
    refine .inl ?_
    rcases h with h | h
    · exact .inl (by rw [g.ff]; exact List.mem_append.mpr (.inl h))
    · rcases List.mem_append.mp h with h | h
      · exact .inl (by rw [g.ff]; exact List.mem_append.mpr (.inr h))
      · exact .inr (by rw [e]; exact List.mem_append.mpr (.inr h))
  have pl : ∀ j a, nth ms'.a j = some a → nth (ms.a ++ more) (bakN R S.length j) = some a := fun j a h => by
    rw [e] at h
    unfold bakN
    by_cases hj : j < R.length
    · obtain ⟨m, em⟩ := nth_some hj
      rw [em]
      obtain ⟨a', ea⟩ := nth_some (l := ms.a) (n := m) (by rw [sm.len]; exact hS m (mem_of_nth em))
      rw [nth_app_lt (by rw [adrs_len]; exact hj), adrs_nth em ea] at h
      cases h
      show nth (ms.a ++ more) m = some a
      rw [nth_app_lt (nth_lt ea)]; exact ea
    · have : nth R j = none := by rw [nth_eq]; exact List.getElem?_eq_none_iff.mpr (by omega)
      rw [this]
      show nth (ms.a ++ more) (S.length + (j - R.length)) = some a
      rw [← sm.len, nth_add]
      rw [nth_ge (by rw [adrs_len]; omega), adrs_len] at h
      exact h
  refine ⟨⟨ms.f, ms.a ++ more⟩, gr, ⟨?_, ?_, ?_, ?_⟩, bd, pl⟩
  · rw [b1]
    have := s'.len
    rw [e, List.length_append, adrs_len] at this
    rw [List.length_append, sm.len]; omega
  · show (ms.a ++ more).Nodup
    have h2 := s'.nd
    rw [e, List.nodup_append] at h2
    rw [List.nodup_append]
    refine ⟨sm.nd, h2.2.1, fun a ha b hb q => ?_⟩
    subst q
    obtain ⟨u, eu⟩ := sm.tracked ha
    have := hm a hb
    rw [eu] at this; cases this
  · intro m o h
    rcases b2 m o h with ⟨i, o', e1, e2, e3⟩ | ⟨e1, e2⟩ | ⟨j, o', e1, e2, e3⟩
    · obtain ⟨a, ea, r⟩ := s'.ob i o' e2
      have := pl i a ea
      unfold bakN at this
      rw [e1] at this
      rw [e3]
      exact ⟨a, this, r.bak bd pl⟩
    · obtain ⟨a, ea, r⟩ := sm.ob m o e2
      refine ⟨a, gr.nthG ea, r.grow gr ?_⟩
      obtain ⟨u, eu⟩ := r.some
      rw [eu]
      refine g.keep a u eu fun q => ?_
      obtain ⟨i, ei⟩ := nth_of_mem q
      have hi : i < R.length := by rw [← adrs_len (l := ms.a)]; exact nth_lt ei
      obtain ⟨m', em⟩ := nth_some hi
      obtain ⟨a', ea'⟩ := nth_some (l := ms.a) (n := m') (by rw [sm.len]; exact hS m' (mem_of_nth em))
      have := adrs_nth em ea'
      have : a' = a := by
        have h1 : nth (adrs ms.a R) i = some a := ei
        rw [this] at h1
        exact Option.some.inj h1
      subst this
      exact e1 (by rw [nd_nth sm.nd ea ea']; exact mem_of_nth em)
    · obtain ⟨a, ea, r⟩ := s'.ob _ o' e2
      have := pl _ a ea
      unfold bakN at this
      rw [show nth R (R.length + j) = none by rw [nth_eq]; exact List.getElem?_eq_none_iff.mpr (by omega)] at this
      rw [e1, e3]
      refine ⟨a, ?_, r.bak bd pl⟩
      rw [show R.length + j - R.length = j by omega] at this
      exact this
  · intro a h
    obtain ⟨u, eu⟩ := sm.trk a h
    exact g.stay a u eu
theorem bakD_t {rs k x} : bakD rs k (.t x) = .t x := rfl
theorem apS_bak {S S' : Sto} : apS S S' = bakS [] S.length [] S S' := by
  cases S' <;> rfl
theorem shD_bak {k : Nat} {d : D} : shD k d = bakD [] k d := by
  cases d <;> rfl
theorem refsD_nil : ∀ {ds : List D} {acc}, refsD ds acc = [] → acc = [] ∧ refsInD [] ds = true
  | [], acc, h => ⟨h, rfl⟩
  | .t x :: r, acc, h => refsD_nil (ds := r) h
  | .r n :: r, acc, h => by
    have := (refsD_nil (ds := r) h).1
    unfold addR at this
    split at this
    · rename_i q
      subst this; cases q
    · simp at this
theorem renL_nil : ∀ {ds : List D}, refsInD [] ds = true → renL [] ds = ds
  | [], _ => rfl
  | .t x :: r, h => by
    unfold renL renD
    rw [renL_nil (ds := r) h]
  | .r n :: r, h => by cases h
/-- the callee with its part of the store: what it promises -/
theorem sub_ok {f : Nat} {R : List Nat} {ds : List D} {vs : List V} {S : Sto} {ms : Md} {H : Hp} {Qi : Post} {Ei : XPost} {Q : VK} {E : XK} (sm : Sim p.G ms H S) (r : RDs p.G ms H ds vs) (hR : R.Nodup) (hd : refsInD R ds = true) (hs : subOk R S R = true)
    (h : cfp p n f (renL R ds) (subS R S R) (fun v S' => Qi (bakD R S.length v) (bakS R S.length R S S')) (fun c a S' => Ei c a (bakS R S.length R S S')))
    (hQ : ∀ dd S' v ms' H', Qi dd S' → Grow ms H ms' H' → Sim p.G ms' H' S' → RD p.G ms' H' dd v → Q v H')
    (hE : ∀ c a S' dx ms' H', Ei c a S' → Grow ms H ms' H' → Sim p.G ms' H' S' → RX p.G ms' H' c a dx → E (.ref (p.G.cad c)) dx H') : spF p n f vs H Q E := by
  have hS : ∀ m ∈ R, m < S.length := fun m hm => by
    obtain ⟨o, e, _⟩ := subOk_all hs m hm
    exact nth_lt e
  obtain ⟨s1, s2⟩ := subS_nth (rs := R) (S := S) (R := R) fun m hm => by
    obtain ⟨o, e, _⟩ := subOk_all hs m hm
    exact ⟨o, e⟩
  have hA : ∀ x ∈ adrs ms.a R, x ∈ ms.a := fun x hx => by
    obtain ⟨i, ei⟩ := nth_of_mem hx
    have hi : i < R.length := by rw [← adrs_len (l := ms.a)]; exact nth_lt ei
    obtain ⟨m, em⟩ := nth_some hi
    obtain ⟨a, ea⟩ := nth_some (l := ms.a) (n := m) (by rw [sm.len]; exact hS m (mem_of_nth em))
    have := adrs_nth em ea
    rw [ei] at this
    cases this
    exact mem_of_nth ea
  have bd : ∀ x, (⟨ms.f ++ ms.a, adrs ms.a R⟩ : Md).bad x → ms.bad x ∨ H x = none := fun x h => by
    refine .inl ?_
    rcases h with h | h
    · exact (List.mem_append.mp h).elim .inl .inr
    · exact .inr (hA x h)
  have kk : ∀ m a, m ∈ R → nth ms.a m = some a → nth (adrs ms.a R) (posN R m) = some a := fun m a hm e => adrs_nth (posN_nth hm) e
  have nthA : ∀ i a, nth (adrs ms.a R) i = some a → ∃ m, nth R i = some m ∧ nth ms.a m = some a := fun i a ei => by
    have hi : i < R.length := by rw [← adrs_len (l := ms.a)]; exact nth_lt ei
    obtain ⟨m, em⟩ := nth_some hi
    obtain ⟨a', ea⟩ := nth_some (l := ms.a) (n := m) (by rw [sm.len]; exact hS m (mem_of_nth em))
    have := adrs_nth em ea
    rw [ei] at this
    cases this
    exact ⟨m, em, ea⟩
  have smS : Sim p.G ⟨ms.f ++ ms.a, adrs ms.a R⟩ H (subS R S R) := by
    refine ⟨by rw [adrs_len, s1], ?_, fun i o e => ?_, fun a h => ?_⟩
    · show (adrs ms.a R).Nodup
      refine List.pairwise_iff_getElem.mpr fun i j hi hj hij q => ?_
      have ea : nth (adrs ms.a R) j = some (adrs ms.a R)[j] := by rw [nth_eq]; exact List.getElem?_eq_getElem hj
      obtain ⟨m, em, e1⟩ := nthA j _ ea
      have ei : nth (adrs ms.a R) i = some (adrs ms.a R)[j] := by rw [nth_eq, ← q]; exact List.getElem?_eq_getElem hi
      obtain ⟨m', em', e1'⟩ := nthA i _ ei
      have := nd_nth sm.nd e1 e1'
      subst this
      have := nd_nth hR em em'
      omega
    · obtain ⟨m, o', e1, e2, e3⟩ := s2 i o e
      obtain ⟨a, ea, ro⟩ := sm.ob m o' e2
      obtain ⟨o2, e4, hr⟩ := subOk_all hs m (mem_of_nth e1)
      rw [e2] at e4; cases e4
      rw [e3]
      exact ⟨a, adrs_nth e1 ea, ro.rn bd kk hr⟩
    · rcases List.mem_append.mp h with h | h
      · exact sm.trk a h
      · exact sm.tracked h
  obtain ⟨d, e1, e2⟩ := cfn_len h
  refine ⟨d, ⟨ms.f ++ ms.a, adrs ms.a R⟩, subS R S R, renL R ds, _, _, e1, e2, smS, r.rn bd kk hd, h, fun dd S' v ms' H' q g s rd => ?_, fun c a S' dx ms' H' q g s rx => ?_⟩
  · obtain ⟨m2, g2, s2, b2, p2⟩ := back_ok sm hR hS g s
    exact hQ _ _ v m2 H' q g2 s2 (RD.ren (f := bakN R S.length) b2 p2 (fun _ => rfl) (fun _ _ _ => bakD_r) rd)
  · obtain ⟨m2, g2, s2, b2, p2⟩ := back_ok sm hR hS g s
    refine hE c a _ dx m2 H' q g2 s2 ?_
    cases rx with
    | no h => exact .no h
    | so h1 h2 h3 => exact .so h1 h2 (h3.cong b2)
theorem callS_ok {f : Nat} {ds : List D} {vs : List V} {S : Sto} {ms : Md} {H : Hp} {Qi : Post} {Ei : XPost} {Q : VK} {E : XK} (sm : Sim p.G ms H S) (r : RDs p.G ms H ds vs) (h : callS (cfp p n) f ds S Qi Ei)
    (hQ : ∀ dd S' v ms' H', Qi dd S' → Grow ms H ms' H' → Sim p.G ms' H' S' → RD p.G ms' H' dd v → Q v H')
    (hE : ∀ c a S' dx ms' H', Ei c a S' → Grow ms H ms' H' → Sim p.G ms' H' S' → RX p.G ms' H' c a dx → E (.ref (p.G.cad c)) dx H') : spF p n f vs H Q E := by
  unfold callS at h
  split at h
  · rename_i e
    have e2 := (refsD_nil e).2
    refine sub_ok (R := []) sm r (by simp) e2 rfl ?_ hQ hE
    rw [renL_nil e2]
    simp only [shD_bak, apS_bak] at h
    exact h
  · rename_i r0 rs0 e
    generalize reachL S (r0 :: rs0) (r0 :: rs0) = R at h
    have hb : rOk R ds S = true := by
      cases q : rOk R ds S with
      | true => rfl
      | false => rw [q] at h; exact h.elim
    rw [hb] at h
    unfold rOk at hb
    rw [Bool.and_eq_true, Bool.and_eq_true] at hb
    exact sub_ok sm r (nodN_iff hb.1.1) hb.1.2 hb.2 h hQ hE
end
end MP

set_option Elab.async false
set_option linter.all false
set_option maxRecDepth 100000
set_option maxHeartbeats 1000000
namespace MP
open PySem L2 PySem.Spec
open PyProof.Rows hiding St
section
variable {p : Pg} {n : Nat} {X : Cx} {sc : Scope} {B : Bs} {E : XPost}
abbrev WEx (p : Pg) (B : Bs) (E : XPost) : L2.St → XK := fun σ cls d H => wX p B E cls d σ H
theorem fnX {f : Nat} (fx : Fct p n) (ok : XOk p X sc n) (h : p.nm.isF f = true ∨ p.nm.isM f = true) : ∃ fd ps, FnOk X.prog X.w X.K X.mg X.base (L2.CX X.prog X.w) (2 * n) (p.G.fad f) fd ps (spF p n f) ∧ Binds X.K fd ps [] := by
  obtain ⟨fd, ps, h1, h2⟩ := fx.call f h
  rw [ok.P, ok.w, ok.K, ok.mg, ok.base]
  exact ⟨fd, ps, h1, h2⟩
theorem psX (tk : Takes X (wX p B E)) (σ : L2.St) : PassesAt (L2.CX X.prog X.w) X σ (WEx p B E σ) := passAt tk σ
/-- the callee's promise behind its arguments -/
theorem sp_call {f : Nat} {ds : List D} {vs : List V} {S S1 : Sto} {ms ms1 : Md} {H H1 : Hp} {σI : Sg} {σ : L2.St} {Q : VK} (a : At p.G B ms H S σI σ) (g : Grow ms H ms1 H1) (s : Sim p.G ms1 H1 S1) (r : RDs p.G ms1 H1 ds vs)
    (h : Bx (callS (cfp p n) f ds S1 (pst p.G ms H Q) E)) : spF p n f vs H1 Q (WEx p B E σ) :=
  callS_ok s r h.un (fun dd S' v ms' H' q g' s' rd => q v ms' H' (g.trans g') s' rd) fun c args S' dx ms' H' q g' s' rx =>
    ⟨ms', S', c, args, a.g.next (g.trans g'), s', fun s0 e => by rw [← a.sg s0 e]; exact a.sl.grow (g.trans g'), rfl, rx, q⟩
theorem len_ne {es : List Expr} (h : es.length ≠ 0) : ∃ e r, es = e :: r := by
  cases es with
  | nil => exact absurd rfl h
  | cons e r => exact ⟨e, r, rfl⟩
theorem mtL_first {nm N sc} {es : Exs} {e : Expr} {r : List Expr} (h : mtL nm N es sc (e :: r) = true) : plainE e = true ∧ ∃ es', mtL nm N es' sc r = true := by
  cases es with
  | nil => cases h
  | cons e' r' =>
    rw [mtL, Bool.and_eq_true, Bool.and_eq_true] at h
    exact ⟨h.1.1, r', h.2⟩
theorem e_call {f : Nat} {es : Exs} {x : Str} {ps : List Expr} {p1 pos : Pos} (fx : Fct p n) (ok : XOk p X sc n) (tk : Takes X (wX p B E)) (hx : x = p.nm.fn f) (hf : p.nm.isF f = true) (hg : glB sc x = true) (hl : ps.length ≠ 0) (hm : mtL p.nm X.N es sc ps = true)
    (ha : PA X ps (lA p.G B (tL p n es E))) : PE X (.Call (.Name x p1) ps [] pos) (lE p.G B (tE p n (.call f es) E)) := by
  obtain ⟨e, r, rfl⟩ := len_ne hl
  obtain ⟨hp, es', hr⟩ := mtL_first hm
  obtain ⟨fd, nms, F, hb⟩ := fnX fx ok (.inl hf)
  obtain ⟨h1, h2⟩ := fx.fn f hf
  refine PE.weak (pe_callSD (dvs := []) (E := WEx p B E) F (ok.room.mono (by omega)) (Gl_of ok hg) (by rw [ok.mg, hx]; exact h1) (by rw [ok.K]; exact h2) hb .nil (psX tk) ha (dbg_of (glB_of hg).2).1 (star_plain hp) (mtL_star hr pos).1) fun σ H Q q => ?_
  obtain ⟨ms, S, σI, a, q⟩ := q
  refine lA_into es a q fun ds S1 vs ms1 H1 g s r q => ?_
  rw [List.append_nil]
  exact sp_call a g s r q
/-- a local name that holds a def -/
theorem e_calv {i : Nat} {es : Exs} {x : Str} {ps : List Expr} {p1 pos : Pos} (fx : Fct p n) (ok : XOk p X sc n) (tk : Takes X (wX p B E)) (hi : X.N[i]? = some x) (hv : visB sc x = true) (hl : ps.length ≠ 0) (hm : mtL p.nm X.N es sc ps = true)
    (ha : PA X ps (lA p.G B (tL p n es E))) : PE X (.Call (.Name x p1) ps [] pos) (lE p.G B (tE p n (.calv i es) E)) := by
  obtain ⟨e, r, rfl⟩ := len_ne hl
  obtain ⟨hp, es', hr⟩ := mtL_first hm
  obtain ⟨hv1, hd⟩ := visB_of hv
  obtain ⟨d1, d2, _⟩ := dbg_of hd
  refine ⟨fun pins s σ H Q I q => ?_⟩
  obtain ⟨ms, S, σI, a, q⟩ := q
  unfold tE wpE at q
  split at q
  · rename_i f e1
    obtain ⟨v, e2, rd⟩ := a.sl.2 i _ e1
    cases rd with | t rd => cases rd with | fn _ hkf =>
    have hff := fx.kf f hkf
    obtain ⟨fd, nms, F, hb⟩ := fnX fx ok (.inl hff)
    obtain ⟨h1, h2⟩ := fx.fn f hff
    refine wpAny_Call_Name_kw (thn ((pe_var (pos := p1) (i := i) hi (ok.vi x hv1) d1 d2).run pins s σ H (fun v H1 => v = .ref (p.G.fad f) ∧ H1 = H) I ⟨_, e2, rfl, rfl⟩) fun u s1 hq => ?_)
    obtain ⟨v, H1, I1, r1, ev, eH⟩ := hq
    subst ev
    rw [eH] at I1
    cases r1
    refine PySem.W.callWith_K (h₀ := X.base) I.ok.mod.kin (by rw [ok.K]; exact h2) (thn (ha.run pos pins s1 σ H _ I1 (lA_into es a q fun ds S1 vs ms1 H1 g s r q => sp_call a g s r q)) fun us s2 hq => ?_) (star_plain hp) (mtL_star hr pos).1
    obtain ⟨vs, H2, I2, r, q⟩ := hq
    refine ⟨I2.kIn, ?_⟩
    exact run_fnS F (ok.room.mono (by omega)) hb (psX tk σ) I2 r q
  · exact q.elim
/-- o.m(..), m a method of the text's classes -/
theorem mform {ps : List Expr} {es : Exs} {env : Env} {pos : Pos} {nm N} (hm : mtL nm N es sc ps = true) (hl : ps.length < 20) : methodCallForm (ps.length + ([] : List Keyword).length) (backTo pos (starEach ps env)) (backToKw pos (keywordEach [] env)) = true := by
  show ((backTo pos (starEach ps env)).all (fun x => !x.1) && (backToKw pos (keywordEach [] env)).all (fun x => x.1.isSome) && decide (ps.length + ([] : List Keyword).length + (if (backToKw pos (keywordEach [] env)).isEmpty then 0 else 1) < 30)) = true
  rw [(mtL_star hm pos).2.2]
  show (true && true && decide (ps.length + 0 + 0 < 30)) = true
  rw [decide_eq_true (by omega)]; rfl
theorem RFs.lookup_none {G : Gx} {ms H c x} : ∀ {i d r}, RFs G ms H c i d r → (∀ j, i ≤ j → j < i + d.length → G.fnm c j ≠ x) → r.lookup x = none
  | _, _, _, .nil, _ => rfl
  | i, _ :: fs, _, .no h, hn => h.lookup_none fun j h1 h2 => hn j (by omega) (by rw [List.length_cons]; omega)
  | i, _ :: fs, _, .so (v := v) (r := r) h k, hn => by
    have h0 := hn i (Nat.le_refl _) (by rw [List.length_cons]; omega)
    rw [List.lookup_cons, beq_eq_false_iff_ne.mpr (fun z => h0 z.symm)]
    exact k.lookup_none fun j h1 h2 => hn j (by omega) (by rw [List.length_cons]; omega)
theorem e_um {c f : Nat} {o : Ex} {es : Exs} {po : Expr} {name : Str} {ps : List Expr} {apos pos : Pos} (fx : Fct p n) (ok : XOk p X sc n) (tk : Takes X (wX p B E)) (hx : name = p.nm.fn f) (hf : p.nm.isM f = true) (hc : p.nm.isC c = true) (hmc : p.nm.mc f = c) (hl : ps.length < 20)
    (hb0 : noCall0 po = true) (hline : (apos.endLine == pos.line) = true) (hm : mtL p.nm X.N es sc ps = true) (ho : PE X po (lE p.G B (tE p n o E))) (ha : PA X ps (lA p.G B (tL p n es E))) :
    PE X (.Call (.Attribute po name apos) ps [] pos) (lE p.G B (tE p n (.um c f o es) E)) := by
  obtain ⟨fd, nms, F, hb⟩ := fnX fx ok (.inr hf)
  obtain ⟨c1, c2, _, _, _, _⟩ := fx.cls c hc
  obtain ⟨m1, m2⟩ := fx.meth f hf
  rw [hmc] at m1 m2
  refine ⟨fun pins s σ H Q I q => ?_⟩
  obtain ⟨ms, S, σI, a, q⟩ := q
  rw [arm_eval_Call, base_plain hb0]
  refine wpAny_bind (thn (ho.run pins s σ H (fun x H1 => ∃ ms1 S1 nr ad dx fs r, x = .ref ad ∧ Grow ms H ms1 H1 ∧ Sim p.G ms1 H1 S1 ∧ RD p.G ms1 H1 (.r nr) (.ref ad) ∧ H1 ad = some (.ins (p.G.cad c) dx r) ∧ RFs p.G ms1 H1 c 0 fs r ∧ fs.length ≤ p.G.nf c ∧
      wpL (cfp p n) p.ge p.up es E σI S1 fun ds S2 => Bx (callS (cfp p n) f (.r nr :: ds) S2 (pst p.G ms H Q) E)) I (lE_into (mE o E) a q fun d S1 v ms1 H1 g s1 r q => ?_)) fun u s1 hq => ?_)
  · split at q
    · rename_i nr
      split at q
      · rename_i c' fs e
        by_cases hcc : c' = c
        · subst hcc
          rw [decide_eq_true rfl] at q
          cases r with
          | r hn =>
            rename_i ad
            obtain ⟨a', e1, ro⟩ := s1.ob _ _ e
            rw [hn] at e1; cases e1
            cases ro with
            | ins h1 h2 h3 => exact ⟨ms1, S1, nr, _, _, fs, _, rfl, g, s1, .r hn, h1, h2, h3, q⟩
        · rw [decide_eq_false hcc] at q
          exact q.elim
      · exact q.elim
    · exact q.elim
  · obtain ⟨x, H1, I1, rx, ms1, S1, nr, ad, dx, fs, r, ex, g1, sm1, rd1, hin, hfs, hz, q⟩ := hq
    subst ex
    obtain rfl : u = Value.ref ad := rx
    refine wpAny_bind (wpAny_standAt ?_)
    have hform := mform (env := X.env) (pos := pos) hm hl
    have hpos : methodCallPos true po X.env apos pos = pure pos := by unfold methodCallPos; simp [hline]
    unfold methodCall
    rw [hform]
    have hlk : r.lookup name = none := hfs.lookup_none fun j _ hj => by
      rw [fx.fnm, hx]
      exact m2 j (by rw [← fx.nf]; omega)
    refine wpAny_bind (wpAny_holding (getmeth_ok (X := X) (m := name) (g := p.G.fad f) I1 hin (by rw [ok.K]; exact c1) (by rw [ok.K, hx]; exact m1) hlk ?_))
    refine wpAny_bind (wpAny_of_eq hpos ?_)
    have hkp : PySem.W.keepIn X.K (.ref (p.G.fad f)) = true := by rw [ok.K]; exact m1.kp
    have hrun := ha.run pos pins s1 σ H1 (fun vs H2 => spF p n f (V.ref ad :: vs) H2 Q (WEx p B E σ)) I1 (lA_into es (a.next g1 sm1) q fun ds S2 vs ms2 H2 g s2 r q => sp_call a (g1.trans g) s2 (.cons (rd1.grow g) r) q)
    cases ps with
    | nil =>
      refine PySem.W.callWith_K0 (first := [.ref ad]) I1.kIn hkp ?_
      cases es with
      | cons _ _ => cases hm
      | nil => exact run_fnS (us := [Value.ref ad]) (vs := [V.ref ad]) F (ok.room.mono (by omega)) hb (psX tk σ) I1 (.cons rfl .nil) (sp_call a g1 sm1 (.cons rd1 .nil) q)
    | cons e0 es0 =>
      obtain ⟨hp, es', hr⟩ := mtL_first hm
      refine PySem.W.callWith_K (first := [.ref ad]) (h₀ := X.base) I.ok.mod.kin hkp (thn hrun fun us s2 hq => ?_) (star_plain hp) (mtL_star hr pos).1
      obtain ⟨vs, H2, I2, r2, q⟩ := hq
      exact ⟨I2.kIn, run_fnS (us := Value.ref ad :: us) (vs := V.ref ad :: vs) F (ok.room.mono (by omega)) hb (psX tk σ) I2 (.cons rfl r2) q⟩
/-! ### new instances -/
theorem RFs.empty {G : Gx} {ms H c} : ∀ {k i : Nat}, RFs G ms H c i (List.replicate k none) []
  | 0, _ => .nil
  | k + 1, _ => .no (RFs.empty (k := k))
theorem run_mkS {X : Cx} {k : Nat} {C f : Addr} {fd : FuncData} {nms : List Str} {sp : Sp} {E : L2.St → XK} {pins : List (Addr × Obj)} {σ : L2.St} {H : Hp} {s : Shared} {Q : VK} {us : List Value} {vs : List V} (M : Mk X.K C f)
    (F : FnOk X.prog X.w X.K X.mg X.base (L2.CX X.prog X.w) k f fd nms sp) (hr : Room (k + 1) X.A) (hb : Binds X.K fd nms []) (hx : PassesAt (L2.CX X.prog X.w) X σ (E σ)) (I : Inv X pins σ H s) (r : Vals vs us)
    (h : ∀ x dx, H x = none → H dx = none → dx ≠ x → sp (.ref x :: vs) (upd (upd H dx (.own x)) x (.ins C dx [])) (fun v H2 => v = .non ∧ Q (.ref x) H2) (E σ)) : wpAny (model X.prog X.w) X.A (call (.ref C) us) (EP X pins σ Q) X.xe s := by
  have hq := h (s.heap.objs.size + 1) s.heap.objs.size (I.hok.fresh (Nat.le_succ _)) (I.hok.fresh (Nat.le_refl _)) (Nat.ne_of_lt (Nat.lt_succ_self _))
  have I2 := Inv.made (C := C) I
  have r2 : Vals (V.ref (s.heap.objs.size + 1) :: vs) (Value.ref (s.heap.objs.size + 1) :: us) := .cons rfl r
  have hl : (Value.ref (s.heap.objs.size + 1) :: us).length = nms.length := by
    have e := r2.length
    rw [F.len _ _ _ _ hq] at e
    exact e.symm
  have b := hb _ (Value.ref (s.heap.objs.size + 1) :: us) I2.kIn (by rw [List.append_nil]; exact hl)
  rw [List.append_nil] at b
  refine wpAny_call (make_map (f := f) I.kIn M.makes M.init (beq_iff_eq.mp M.fn) (codeAny_mono (F.run _ X.stack _ _ ⟨Value.ref (s.heap.objs.size + 1) :: us, []⟩ (Value.ref (s.heap.objs.size + 1) :: us) _ _ (E σ) (hr.make C us [])
    (I2.env0.make C us []) b r2 hq) fun r s' hq' => ?_))
  cases r with
  | error e => exact hx pins _ _ e s' I2 hq'
  | ok fl =>
    cases fl with
    | ret u =>
      obtain ⟨v, H', I3, rv, ev, q3⟩ := I2.after hq'
      subst ev
      exact ⟨rv, ⟨V.ref (s.heap.objs.size + 1), H', I3, rfl, q3⟩⟩
    | next => exact False.elim hq'
    | brk => exact False.elim hq'
    | cont => exact False.elim hq'
/-- what making an instance promises -/
theorem sp_mk {c f : Nat} {l : List T} {ds : List D} {vs : List V} {S S1 : Sto} {ms ms1 : Md} {H H1 : Hp} {σI : Sg} {σ : L2.St} {Q : VK} {x dx : Addr} (hnf : p.G.nf = p.nm.nf) (a : At p.G B ms H S σI σ) (g : Grow ms H ms1 H1) (s : Sim p.G ms1 H1 S1) (r : RDs p.G ms1 H1 ds vs) (hz : frzD [] ds = some l)
    (h : cfp p n f (.r 0 :: ds) [.ins c (List.replicate (p.nm.nf c) none)] (fun d S' => match d with
      | .t .non => pst p.G ms H Q (.r S1.length) (S1 ++ bakOs [] S1.length S')
      | _ => False) (fun c a _ => E c a S1)) (hx : H1 x = none) (hdx : H1 dx = none) (hne : dx ≠ x) :
    spF p n f (.ref x :: vs) (upd (upd H1 dx (.own x)) x (.ins (p.G.cad c) dx [])) (fun v H2 => v = .non ∧ Q (.ref x) H2) (WEx p B E σ) := by
  have hx1 : upd H1 dx (.own x) x = none := by rw [upd_ne (Ne.symm hne)]; exact hx
  have g1 : Grow ms1 H1 ms1 (upd H1 dx (.own x)) := Grow.laid s hdx _
  have s1 : Sim p.G ms1 (upd H1 dx (.own x)) S1 := s.laid hdx _
  have g2 : Grow ms1 (upd H1 dx (.own x)) ms1 (upd (upd H1 dx (.own x)) x (.ins (p.G.cad c) dx [])) := Grow.laid s1 hx1 _
  have s2 : Sim p.G ms1 (upd (upd H1 dx (.own x)) x (.ins (p.G.cad c) dx [])) S1 := s1.laid hx1 _
  have g3 : Grow (⟨ms1.f ++ ms1.a, [x]⟩ : Md) H1 ⟨ms1.f ++ ms1.a, [x]⟩ (upd (upd H1 dx (.own x)) x (.ins (p.G.cad c) dx [])) := (Grow.laid0 hdx _).trans (Grow.laid0 hx1 _)
  generalize hH : upd (upd H1 dx (.own x)) x (.ins (p.G.cad c) dx []) = H3 at *
  have hxi : H3 x = some (.ins (p.G.cad c) dx []) := by rw [← hH]; exact upd_same
  have hns : ¬ ms1.bad x := s.fresh hx
  have gm : Grow ms1 H1 ms1 H3 := g1.trans g2
  -- the callee's marks
  have bd : ∀ y, (⟨ms1.f ++ ms1.a, [x]⟩ : Md).bad y → ms1.bad y ∨ H1 y = none := fun y hy => by
    rcases hy with hy | hy
    · exact .inl ((List.mem_append.mp hy).elim .inl .inr)
    · have : y = x := by simpa using hy
      exact .inr (by rw [this]; exact hx)
  have sm : Sim p.G ⟨ms1.f ++ ms1.a, [x]⟩ H3 [.ins c (List.replicate (p.nm.nf c) none)] := by
    refine ⟨rfl, by simp, fun i o e => ?_, fun y hy => ?_⟩
    · cases i with
      | zero =>
        cases e
        exact ⟨x, rfl, .ins hxi RFs.empty (by rw [List.length_replicate, hnf]; exact Nat.le_refl _)⟩
      | succ i => cases e
    · rcases List.mem_append.mp hy with hy | hy
      · exact s2.trk y hy
      · exact s2.tracked hy
  obtain ⟨d, e1, e2⟩ := cfn_len h
  have rl := frz0 r hz
  have hds : RDs p.G ⟨ms1.f ++ ms1.a, [x]⟩ H3 (.r 0 :: ds) (.ref x :: vs) := .cons (.r rfl) (by
    have go : ∀ {ds : List D} {vs : List V} {l : List T}, RDs p.G ms1 H1 ds vs → frzD [] ds = some l → RDs p.G ⟨ms1.f ++ ms1.a, [x]⟩ H3 ds vs := by
      intro ds
      induction ds with
      | nil => intro vs l r e; cases r; exact .nil
      | cons d ds ih =>
        intro vs l r e
        cases r with
        | cons rd r =>
          cases rd with
          | t rt =>
            simp only [frzD, rdT] at e
            split at e
            · rename_i x' l' e1 e2
              refine .cons (.t ?_) (ih r e2)
              exact (rt.cong bd).grow g3
            · cases e
          | r hn =>
            simp only [frzD, rdT, nth] at e
            cases e
    exact go r hz)
  have g4 : Grow (⟨ms1.f ++ ms1.a, adrs ms1.a []⟩ : Md) H1 ⟨ms1.f ++ ms1.a, [x]⟩ H3 := ⟨⟨[x], rfl, fun y hy => by
    have : y = x := by simpa using hy
    rw [this]; exact hx⟩, rfl, fun y o e _ => by
      by_cases hm : y ∈ ms1.a
      · rw [← hH]
        have n1 : y ≠ dx := ne_of_none e hdx
        have n2 : y ≠ x := ne_of_none e hx
        rw [upd_ne n2, upd_ne n1]; exact e
      · exact gm.keep y o e hm, gm.stay⟩
  refine ⟨d, _, _, _, _, _, e1, e2, sm, hds, h, fun dd S' v ms' H' q gg s' rd => ?_, fun c' a' S' dx' ms' H' q gg s' rx => ?_⟩
  · split at q
    · obtain ⟨m2, g5, s5, b5, p5⟩ := back_ok s (R := []) (by simp) (fun m hm => by cases hm) (g4.trans gg) s'
      have eb : bakS [] S1.length [] S1 S' = S1 ++ bakOs [] S1.length S' := by
        cases S' with
        | nil => unfold bakS bakOs; simp
        | cons _ _ => unfold bakS; rfl
      rw [eb] at s5
      obtain ⟨more, em, _⟩ := gg.pre
      have h0 : nth ms'.a 0 = some x := by rw [em]; rfl
      have h1 := p5 0 x h0
      unfold bakN at h1
      simp only [nth, List.length_nil, Nat.sub_zero, Nat.add_zero] at h1
      cases rd with
      | t rd =>
        cases rd
        exact ⟨rfl, q _ _ _ (g.trans g5) s5 (.r h1)⟩
    · exact q.elim
  · have g6 := g4.trans gg
    have g7 : Grow ms1 H1 ms1 H' := ⟨⟨[], by simp⟩, rfl, fun y o e _ => g6.keep y o e (by intro z; cases z), g6.stay⟩
    refine ⟨ms1, S1, c', a', a.g.next (g.trans g7), s.keep g7 fun y hy => ?_, fun s0 e => by rw [← a.sg s0 e]; exact a.sl.grow (g.trans g7), rfl, ?_, q⟩
    · obtain ⟨u, eu⟩ := s.tracked hy
      rw [eu]
      exact g6.keep y u eu (by intro z; cases z)
    · have bb : ∀ y, ms1.bad y → ms'.bad y ∨ H' y = none := fun y hy => .inl (.inl (by
        rw [gg.ff]
        exact List.mem_append.mpr hy))
      cases rx with
      | no h => exact .no h
      | so h1 h2 h3 => exact .so h1 h2 (h3.cong bb)
theorem e_mk {c f nf : Nat} {es : Exs} {x : Str} {ps : List Expr} {p1 pos : Pos} (fx : Fct p n) (ok : XOk p X sc n) (tk : Takes X (wX p B E)) (hx : x = p.nm.cl c) (hc : p.nm.isC c = true) (hf : p.nm.isM f = true) (hi : p.nm.ini c = f) (hnf : p.nm.nf c = nf) (hg : glB sc x = true) (hl : ps.length ≠ 0)
    (hm : mtL p.nm X.N es sc ps = true) (ha : PA X ps (lA p.G B (tL p n es E))) : PE X (.Call (.Name x p1) ps [] pos) (lE p.G B (tE p n (.mk c f nf es) E)) := by
  obtain ⟨e, r, rfl⟩ := len_ne hl
  obtain ⟨hp, es', hr⟩ := mtL_first hm
  obtain ⟨fd, nms, F, hb⟩ := fnX fx ok (.inr hf)
  obtain ⟨c1, c2, c3, _, _, _⟩ := fx.cls c hc
  rw [hi] at c3
  have hmk : Mk X.K (p.G.cad c) (p.G.fad f) := by rw [ok.K]; exact c3
  refine ⟨fun pins s σ H Q I q => ?_⟩
  obtain ⟨ms, S, σI, a, q⟩ := q
  refine wpAny_Call_Name_kw (ld_glob I (Gl_of ok hg) (by rw [ok.mg, hx]; exact c2) ?_ (dbg_of (glB_of hg).2).1)
  refine PySem.W.callWith_K (h₀ := X.base) I.ok.mod.kin hmk.kp (thn (ha.run pos pins s σ H (fun vs H1 => ∀ x dx, H1 x = none → H1 dx = none → dx ≠ x → spF p n f (.ref x :: vs) (upd (upd H1 dx (.own x)) x (.ins (p.G.cad c) dx [])) (fun v H2 => v = .non ∧ Q (.ref x) H2) (WEx p B E σ)) I
    (lA_into es a q fun ds S1 vs ms1 H1 g s1 r q x dx h1 h2 h3 => ?_)) fun us s1 hq => ?_) (star_plain hp) (mtL_star hr pos).1
  · split at q
    · rename_i l e0
      subst hnf
      exact sp_mk fx.nf a g s1 r e0 q h1 h2 h3
    · exact q.elim
  · obtain ⟨vs, H1, I1, r1, q⟩ := hq
    exact ⟨I1.kIn, run_mkS hmk F ok.room hb (psX tk σ) I1 r1 q⟩
end
end MP

set_option Elab.async false
set_option linter.all false
set_option maxRecDepth 100000
set_option maxHeartbeats 1000000
namespace MP
open PySem L2 PySem.Spec
open PyProof.Rows hiding St
theorem bi_boot (b : Bi) : bootBuiltins (biNm b) = some (biV b) := by cases b <;> rfl
theorem bi_blt (b : Bi) : String.toList "x" ≠ [] := by decide
section
variable {p : Pg} {n : Nat} {X : Cx} {sc : Scope} {B : Bs} {E : XPost}
theorem bi_none (fx : Fct p n) (ok : XOk p X sc n) (b : Bi) : X.mg (biNm b) = none := by
  rw [ok.mg]
  cases b <;> exact fx.blt _ (by simp [bltNames, biNm])
theorem e_bi {m : Bool} {b : Bi} {es : Exs} {x : Str} {ps : List Expr} {p1 pos : Pos} (fx : Fct p n) (ok : XOk p X sc n) (hx : x = biNm b) (hg : glB sc x = true) (hl : ps.length ≠ 0) (hm : mtL p.nm X.N es sc ps = true)
    (ha : PA X ps (lA p.G B (tL p n es E))) : PE X (.Call (.Name x p1) ps [] pos) (lE p.G B (tE p n (.bi m b es) E)) := by
  obtain ⟨e, r, rfl⟩ := len_ne hl
  obtain ⟨hp, es', hr⟩ := mtL_first hm
  obtain ⟨d1, _, d3⟩ := dbg_of (glB_of hg).2
  have hb := bi_ok ok.K ok.calm m b
  have hboot := bi_boot b
  have hmg := bi_none fx ok b
  have hG := Gl_of ok hg
  subst hx
  have fin : ∀ σ H Q, lE p.G B (tE p n (.bi m b es) E) σ H Q → tCB (lbi p.G m b) (lA p.G B (tL p n es E)) σ H Q := fun σ H Q q => by
    obtain ⟨ms, S, σI, a, q⟩ := q
    exact lA_into es a q fun ds S1 vs ms1 H1 g s r q => ⟨ms1, S1, ds, s, r, biD_mono (fun d S q v ms2 H2 g2 s2 r2 => q _ _ _ (g.trans g2) s2 r2) q⟩
  cases b <;> first
    | exact PE.weak (pe_callB hb hG hmg hboot ha d3 d1 (star_plain hp) (mtL_star hr pos).1) fin
    | exact PE.weak (pe_callTy hb hG hmg hboot ha d3 d1 (star_plain hp) (mtL_star hr pos).1) fin
/-! ### built-in methods -/
theorem ty_list {ms H S} {d : D} {v : V} (s : Sim p.G ms H S) (r : RD p.G ms H d v) (h : tyM .append d S = true) : tyV X.K "list" v H := by
  cases d with
  | t x =>
    cases r with
    | t r =>
      cases x with
      | lst l => cases r with | lst h1 h2 h3 => exact .inl ⟨rfl, _, SqL.of h1⟩
      | _ => cases h
  | r nr =>
    cases r with
    | r hn =>
      unfold tyM at h
      simp only at h
      split at h
      · rename_i l e
        obtain ⟨a, e1, ro⟩ := s.ob _ _ e
        rw [hn] at e1; cases e1
        cases ro with
        | lst h1 h2 => exact .inl ⟨rfl, _, SqL.of h1⟩
      · rename_i l e
        obtain ⟨a, e1, ro⟩ := s.ob _ _ e
        rw [hn] at e1; cases e1
        cases ro with
        | lsD h1 h2 => exact .inl ⟨rfl, _, SqL.of h1⟩
      · cases h
theorem ty_str {ms H S} {d : D} {v : V} (r : RD p.G ms H d v) (h : tyM .isdigit d S = true) : tyV X.K "str" v H := by
  cases d with
  | t x =>
    cases r with
    | t r =>
      cases x with
      | str l => cases r; rfl
      | _ => cases h
  | r nr => cases h
theorem ty_dict {ms H S} {d : D} {v : V} (s : Sim p.G ms H S) (r : RD p.G ms H d v) (h : tyM .get d S = true) : tyV X.K "dict" v H := by
  unfold tyM at h
  simp only at h
  split at h
  · rename_i l e
    obtain ⟨a, xs, rfl, t1, _⟩ := (rdT_ok s r e).dctE
    exact .inr (.inr (.inl ⟨rfl, .inl ⟨_, t1⟩⟩))
  · cases h
theorem tyV_of {ms H S} (b : Me) {d : D} {v : V} (s : Sim p.G ms H S) (r : RD p.G ms H d v) (h : tyM b d S = true) : tyV X.K (meTy b) v H := by
  cases b with
  | partition => exact ty_str (S := S) r h
  | isdigit => exact ty_str r h
  | get => exact ty_dict s r h
  | append => exact ty_list s r h
  | extend => exact ty_list s r h
  | insert => exact ty_list s r h
  | pop => exact ty_list s r h
  | popAt => exact ty_list s r h
  | remove => exact ty_list s r h
  | index => exact ty_list s r h
  | count => exact ty_list s r h
theorem e_met {b : Me} {o : Ex} {es : Exs} {po : Expr} {name : Str} {ps : List Expr} {apos pos : Pos} (ok : XOk p X sc n) (hx : name = meNm b) (hb0 : noCall0 po = true) (hline : (apos.endLine == pos.line) = true) (hl : ps.length < 20)
    (hm : mtL p.nm X.N es sc ps = true) (ho : PE X po (lE p.G B (tE p n o E))) (ha : PA X ps (lA p.G B (tL p n es E))) : PE X (.Call (.Attribute po name apos) ps [] pos) (lE p.G B (tE p n (.met b o es) E)) := by
  subst hx
  have hme := me_ok ok.K (hu1 ok) b
  have fin : ∀ {ms H S σI σ Q}, At p.G B ms H S σI σ → tE p n (.met b o es) E σI S (pst p.G ms H Q) → lE p.G B (tE p n o E) σ H (fun x H1 => tyV X.K (meTy b) x H1 ∧ lA p.G B (tL p n es E) σ H1 fun xs H2 => lme p.G b x xs H2 Q) := by
    intro ms H S σI σ Q a q
    refine lE_into (mE o E) a q fun d S1 v ms1 H1 g s r q => ?_
    cases hty : tyM b d S1 with
    | false => rw [hty] at q; exact q.elim
    | true =>
      rw [hty] at q
      refine ⟨tyV_of b s r hty, lA_into es (a.next g s) q fun ds S2 vs ms2 H2 g2 s2 r2 q => ?_⟩
      exact ⟨ms2, S2, d, ds, s2, r.grow g2, r2, meD_mono (fun d S q v ms3 H3 g3 s3 r3 => q _ _ _ ((g.trans g2).trans g3) s3 r3) q.un⟩
  cases ps with
  | nil =>
    refine PE.weak (pe_bm0 (me_pa b) (me_slot b) (me_ty b) hme ho (base_plain hb0) hline) fun σ H Q q => ?_
    obtain ⟨ms, S, σI, a, q⟩ := q
    cases es with
    | cons _ _ => cases hm
    | nil =>
      have q2 := fin a q
      obtain ⟨ms, S, σI, a, q⟩ := q2
      refine ⟨ms, S, σI, a, mE o E _ _ _ _ (fun d S' q v ms' H' g s r => ?_) q⟩
      have z := q v ms' H' g s r
      obtain ⟨z1, ms1, S1, σ1, a1, z2⟩ := z
      exact ⟨z1, z2 [] _ _ .refl a1.sm .nil⟩
  | cons e0 es0 =>
    obtain ⟨hp, es', hr⟩ := mtL_first hm
    refine PE.weak (pe_bm (me_pa b) (me_slot b) (me_ty b) hme ho ha (base_plain hb0) ?_ hline (star_plain hp) (mtL_star hr pos).1) fun σ H Q q => ?_
    · rw [(mtL_star hm pos).2.2]
      show (true && true && decide ((e0 :: es0).length + 0 + 0 < 30)) = true
      rw [decide_eq_true (by omega)]; rfl
    · obtain ⟨ms, S, σI, a, q⟩ := q
      exact fin a q
/-! ### fields -/
theorem RFs.lookup {G : Gx} {ms H c f} : ∀ {i d r}, RFs G ms H c i d r → (∀ j, i ≤ j → j < i + d.length → G.fnm c j = G.fnm c (i + f) → j = i + f) → ∀ {y}, nth d f = some (some y) → ∃ v, r.lookup (G.fnm c (i + f)) = some v ∧ RD G ms H y v := by
  intro i d r h
  induction h generalizing f with
  | nil => intro _ y e; cases e
  | no h ih =>
    intro hn y e
    cases f with
    | zero => cases e
    | succ f =>
      have := @ih f (fun j h1 h2 h3 => by
        have := hn j (by omega) (by rw [List.length_cons]; omega) (by rw [h3]; congr 1; omega)
        omega) y e
      rw [show ∀ i : Nat, i + 1 + f = i + (f + 1) by intro i; omega] at this
      exact this
  | @so i d0 v0 fs r h k ih =>
    intro hn y e
    cases f with
    | zero =>
      cases e
      exact ⟨v0, by rw [List.lookup_cons]; simp, h⟩
    | succ f =>
      have := @ih f (fun j h1 h2 h3 => by
        have := hn j (by omega) (by rw [List.length_cons]; omega) (by rw [h3]; congr 1; omega)
        omega) y e
      rw [show ∀ i : Nat, i + 1 + f = i + (f + 1) by intro i; omega] at this
      have hne : G.fnm c (i + (f + 1)) ≠ G.fnm c i := fun z => by
        have := hn i (Nat.le_refl _) (by rw [List.length_cons]; omega) z.symm
        omega
      rw [List.lookup_cons, beq_eq_false_iff_ne.mpr hne]
      exact this
theorem e_fld {c f : Nat} {o : Ex} {po : Expr} {name : Str} {pos : Pos} (fx : Fct p n) (ok : XOk p X sc n) (hx : name = p.nm.fd c f) (hc : p.nm.isC c = true) (hf : f < p.nm.nf c) (hb0 : noCall0 po = true) (ho : PE X po (lE p.G B (tE p n o E))) :
    PE X (.Attribute po name pos) (lE p.G B (tE p n (.fld c f o) E)) :=
  PE.weak (pe_fld ho (base_plain hb0)) fun σ H Q q => by
    obtain ⟨c1, _, _, _, c5, c6⟩ := fx.cls c hc
    obtain ⟨ms, S, σI, a, q⟩ := q
    refine lE_into (mE o E) a q fun d S1 v ms1 H1 g s r q => ?_
    unfold getF at q
    split at q
    · rename_i nr
      split at q
      · rename_i c' fs e
        by_cases hcc : c' = c
        · subst hcc
          rw [decide_eq_true rfl] at q
          cases r with
          | r hn =>
            rename_i ad
            obtain ⟨a', e1, ro⟩ := s.ob _ _ e
            rw [hn] at e1; cases e1
            cases ro with
            | ins h1 h2 h3 =>
              simp only [br] at q
              split at q
              · rename_i y e2
                have hfl := nth_lt e2
                rw [fx.nf] at h3
                obtain ⟨v, l1, l2⟩ := h2.lookup (f := f) (fun j _ hj hq => by
                  rw [fx.fnm] at hq
                  have := c6 j (0 + f) (by omega) (by omega) hq
                  exact this) e2
                rw [Nat.zero_add, fx.fnm, ← hx] at l1
                refine ⟨_, _, _, _, v, rfl, h1, by rw [ok.K]; exact c1, by rw [ok.K, hx]; exact c5 f hf, l1, q _ _ _ g s l2⟩
              · exact q.elim
        · rw [decide_eq_false hcc] at q
          exact q.elim
      · exact q.elim
    · exact q.elim
/-! ### isinstance -/
def tyS : Ty → String
  | .int => "int"
  | .bool => "bool"
  | .tuple => "tuple"
  | .str => "str"
  | _ => "int"
def tyT : T → String
  | .non => "NoneType"
  | .bl _ => "bool"
  | .int _ => "int"
  | .str _ => "str"
  | .tup _ => "tuple"
  | .lst _ => "list"
  | .dct _ => "dict"
  | .scr _ => "list"
  | _ => ""
theorem tyX_of {ms H} (hK : X.K = p.G.K) {x : T} {v : V} (r : RR p.G ms H x v) (h : tyOk x = true) : TyX X.K H v (.type (tyT x)) := by
  cases r with
  | t r =>
    cases r with
    | non => exact .base .non
    | bl b => exact .base (.bl b)
    | int i => exact .base (.int i)
    | str z => exact .base (.str z)
    | tup h1 h2 =>
      rcases h1 with ⟨h1 | ⟨o, h1⟩, _⟩ | ⟨o, its, n, h1, h2, _⟩
      · exact .base (.tup h1)
      · exact .fTuple h1
      · exact .kTuple (by rw [hK]; exact h1) h2
    | lst h1 h2 h3 => exact .base (.lst h1)
    | dct h1 h2 h3 => exact .base (.dK h1)
    | scr h1 =>
      rcases h1 with ⟨h1 | ⟨o, h1⟩, _⟩ | ⟨o, its, n, h1, h2, _⟩
      · exact .base (.lst h1)
      · exact .base (.frz h1)
      · exact .kList (by rw [hK]; exact h1) h2
    | fn f hf => cases h
  | lst h1 h2 => exact .base (.lst h1)
  | dct h1 h2 => exact .base (.dK h1)
def tyBas : Ty → Bool
  | .int => true
  | .bool => true
  | .tuple => true
  | .str => true
  | _ => false
theorem kit_isi (up : Nat → List Ty) (y : T) (t : Ty) (h : tyOk y = true) (hne : ∀ c a, y ≠ .exc c a) (ht : tyBas t = true) : kitB (tyT y) (tyS t) = some (isiT up y t) := by
  cases y <;> first
    | exact absurd rfl (hne _ _)
    | (cases h; done)
    | (cases t <;> first | (cases ht; done) | (simp only [tyT, tyS, isiT]; decide +kernel))
theorem e_isi {e : Ex} {t : Ty} {x : Str} {pa pt : Expr} {p1 pos : Pos} (fx : Fct p n) (ok : XOk p X sc n) (hx : x = ("isinstance" : Str)) (hg : glB sc x = true) (hp : plainE pa = true) (ht : tyB p.nm sc t pt = true) (ha : PE X pa (lE p.G B (tE p n e E))) :
    PE X (.Call (.Name x p1) [pa, pt] [] pos) (lE p.G B (tE p n (.isi e [t]) E)) := by
  obtain ⟨d1, _, d3⟩ := dbg_of (glB_of hg).2
  have hG := Gl_of ok hg
  subst hx
  have hmg : X.mg ("isinstance" : Str) = none := by rw [ok.mg]; exact fx.blt _ (by simp [bltNames])
  have ht' : tyBas t = true := by
    unfold tyB at ht
    split at ht <;> first | rfl | cases ht
  have hty : PE X pt (tC (.ty (tyS t))) ∧ plainE pt = true := by
    unfold tyB at ht
    split at ht <;> first
      | cases ht
      | (rw [Bool.and_eq_true, decide_eq_true_iff] at ht
         obtain ⟨rfl, h2⟩ := ht
         obtain ⟨e1, _, e3⟩ := dbg_of (glB_of h2).2
         refine ⟨pe_bltn (Gl_of ok h2) ?_ rfl rfl e3 e1, rfl⟩
         rw [ok.mg]
         exact fx.blt _ (by simp [bltNames]))
  have ha2 : PA X [pa, pt] (tCons (lE p.G B (tE p n e E)) (tCons (tC (.ty (tyS t))) tNil)) := pa_cons ha (pa_cons hty.1 pa_nil (star_plain hty.2)) (star_plain hp)
  refine PE.weak (pe_callB call_isi hG hmg rfl ha2 d3 d1 (star_plain hp) (by rw [star_plain hty.2]; rfl)) fun σ H Q q => ?_
  obtain ⟨ms, S, σI, a, q⟩ := q
  refine lE_into (mE e E) a q fun d S1 v ms1 H1 g s r q => ?_
  split at q
  · rename_i y ey
    cases hty : tyOk y with
    | false => rw [hty] at q; exact q.elim
    | true =>
      rw [hty] at q
      have rr := rdT_ok s r ey
      refine ⟨v, .ty (tyS t), _, _, isiT p.up y t, rfl, .ty _, tyX_of ok.K rr hty, ?_, ?_⟩
      · have hne : ∀ c a, y ≠ .exc c a := fun c a z => by
          subst z
          cases rr with | t rr => cases rr
        exact kit_ty (kit_isi p.up y t hty hne ht')
      · have q2 : pst p.G ms H Q (.t (.bl (isiT p.up y t))) S1 := by
          simp only [List.any_cons, List.any_nil, Bool.or_false] at q
          exact q
        exact q2 _ _ _ g s (.t (.bl _))
  · exact q.elim
end
end MP

set_option Elab.async false
set_option linter.all false
set_option maxRecDepth 100000
set_option maxHeartbeats 1000000
namespace MP
open PySem L2 PySem.Spec
open PyProof.Rows hiding St
/-! ### what loops and comprehensions walk -/
/-- what data needs of a later heap -/
structure Gw (ms : Md) (H : Hp) (ms' : Md) (H' : Hp) : Prop where
  keep : ∀ a o, H a = some o → ¬ ms.bad a → H' a = some o ∧ ¬ ms'.bad a
  idx : ∀ n a, nth ms.a n = some a → nth ms'.a n = some a
theorem Gw.of {ms H ms' H'} (g : Grow ms H ms' H') : Gw ms H ms' H' := ⟨fun a o h n => ⟨g.keepB h n, g.notin h n⟩, fun n a h => g.nthG h⟩
theorem Gw.trans {ms H ms' H' ms2 H2} (g : Gw ms H ms' H') (k : Gw ms' H' ms2 H2) : Gw ms H ms2 H2 := ⟨fun a o h n => k.keep a o (g.keep a o h n).1 (g.keep a o h n).2, fun n a h => k.idx n a (g.idx n a h)⟩
theorem TupAt.gw {K ms H ms' H' a xs} (g : Gw ms H ms' H') (h : TupAt K ms H a xs) : TupAt K ms' H' a xs := by
  rcases h with ⟨h | ⟨o, h⟩, n⟩ | h
  · exact .inl ⟨.inl (g.keep _ _ h n).1, (g.keep _ _ h n).2⟩
  · exact .inl ⟨.inr ⟨o, (g.keep _ _ h n).1⟩, (g.keep _ _ h n).2⟩
  · exact .inr h
theorem LstAt.gw {K ms H ms' H' a xs} (g : Gw ms H ms' H') (h : LstAt K ms H a xs) : LstAt K ms' H' a xs := by
  rcases h with ⟨h | ⟨o, h⟩, n⟩ | h
  · exact .inl ⟨.inl (g.keep _ _ h n).1, (g.keep _ _ h n).2⟩
  · exact .inl ⟨.inr ⟨o, (g.keep _ _ h n).1⟩, (g.keep _ _ h n).2⟩
  · exact .inr h
section
variable {G : Gx} {ms ms' : Md} {H H' : Hp}
mutual
theorem RT.gw (g : Gw ms H ms' H') : ∀ {t : T} {v : V}, RT G ms H t v → RT G ms' H' t v
  | _, _, .non => .non
  | _, _, .bl b => .bl b
  | _, _, .int i => .int i
  | _, _, .str x => .str x
  | _, _, .tup h k => .tup (h.gw g) (k.gw g)
  | _, _, .lst h n k => .lst (g.keep _ _ h n).1 (g.keep _ _ h n).2 (k.gw g)
  | _, _, .dct h n k => .dct (g.keep _ _ h n).1 (g.keep _ _ h n).2 (k.gw g)
  | _, _, .scr h => .scr (h.gw g)
  | _, _, .fn f h => .fn f h
theorem RTs.gw (g : Gw ms H ms' H') : ∀ {t : List T} {v : List V}, RTs G ms H t v → RTs G ms' H' t v
  | _, _, .nil => .nil
  | _, _, .cons h k => .cons (h.gw g) (k.gw g)
theorem RKs.gw (g : Gw ms H ms' H') : ∀ {t : List (Key × T)} {v : List (Key × V)}, RKs G ms H t v → RKs G ms' H' t v
  | _, _, .nil => .nil
  | _, _, .cons h k => .cons (h.gw g) (k.gw g)
end
theorem RD.gw (g : Gw ms H ms' H') {d v} : RD G ms H d v → RD G ms' H' d v
  | .t h => .t (h.gw g)
  | .r h => .r (g.idx _ _ h)
theorem Sl.gw (g : Gw ms H ms' H') {σI σ} (h : Sl G ms H σI σ) : Sl G ms' H' σI σ := ⟨h.1, fun i d e => by
  obtain ⟨v, e1, e2⟩ := h.2 i d e
  exact ⟨v, e1, e2.gw g⟩⟩
end
def gOk (g : Option (Nat × List T)) (S : Sto) : Prop := match g with
  | none => True
  | some (n, l) => nth S n = some (.lst l)
theorem grd_ok {g S q} (h : grd g S q) : gOk g S ∧ q := by
  cases g with
  | none => exact ⟨trivial, h⟩
  | some x => exact h
structure ItS (G : Gx) (J : L2.It) (l : List T) (g : Option (Nat × List T)) (ms0 : Md) (H0 : Hp) : Prop where
  stop : ∀ ms H S i, Gw ms0 H0 ms H → Sim G ms H S → gOk g S → l.length ≤ i → J.stop i H
  go : ∀ ms H S i x, Gw ms0 H0 ms H → Sim G ms H S → gOk g S → l[i]? = some x → J.go i H
  yld : ∀ ms H S i x v H', Gw ms0 H0 ms H → Sim G ms H S → gOk g S → l[i]? = some x → J.yld i H v H' → Grow ms H ms H' ∧ Sim G ms H' S ∧ RT G ms H' x v
section
variable {G : Gx}
/-- a list whose items are known at every later time -/
theorem its_list {ms0 H0 l g a} (h : ∀ ms H S, Gw ms0 H0 ms H → Sim G ms H S → gOk g S → ∃ xs, H a = some (.lst xs) ∧ RTs G ms H l xs) : ItS G (Itl G.K a) l g ms0 H0 where
  stop := fun ms H S i w s go hi => by
    obtain ⟨xs, e, r⟩ := h ms H S w s go
    exact ⟨xs, SqL.of e, by rw [← r.length]; exact hi⟩
  go := fun ms H S i x w s go hi => by
    obtain ⟨xs, e, r⟩ := h ms H S w s go
    obtain ⟨v, e1, _⟩ := r.get hi
    exact ⟨xs, v, SqL.of e, e1⟩
  yld := fun ms H S i x v H' w s go hi y => by
    obtain ⟨xs, e, r⟩ := h ms H S w s go
    obtain ⟨v', e1, r1⟩ := r.get hi
    obtain ⟨e2, y⟩ := y
    subst e2
    have := y xs (SqL.of e)
    rw [e1] at this; cases this
    exact ⟨.refl, s, r1⟩
theorem its_tup {ms0 H0 l a xs} (h : TupAt G.K ms0 H0 a xs) (r : RTs G ms0 H0 l xs) : ItS G (Itt G.K a) l none ms0 H0 where
  stop := fun ms H S i w s go hi => ⟨xs, (h.gw w).sq, by rw [← r.length]; exact hi⟩
  go := fun ms H S i x w s go hi => by
    obtain ⟨v, e1, _⟩ := r.get hi
    exact ⟨xs, v, (h.gw w).sq, e1⟩
  yld := fun ms H S i x v H' w s go hi y => by
    obtain ⟨v', e1, r1⟩ := (r.gw w).get hi
    obtain ⟨e2, y⟩ := y
    subst e2
    have := y xs (h.gw w).sq
    rw [e1] at this; cases this
    exact ⟨.refl, s, r1⟩
theorem rngL_get {lo : Int} {n i : Nat} : (rngL lo n)[i]? = if i < n then some (T.int (lo + (i : Int))) else none := by
  unfold rngL
  rw [List.getElem?_map]
  by_cases h : i < n
  · rw [if_pos h, List.getElem?_range h]; rfl
  · rw [if_neg h, List.getElem?_eq_none (by simpa using h)]; rfl
theorem rngL_len {lo : Int} {n : Nat} : (rngL lo n).length = n := by unfold rngL; simp
theorem rngC_get {lo c : Int} {n i : Nat} : (rngC lo c n)[i]? = if i < n then some (T.int (lo + (i : Int) * c)) else none := by
  unfold rngC
  rw [List.getElem?_map]
  by_cases h : i < n
  · rw [if_pos h, List.getElem?_range h]; rfl
  · rw [if_neg h, List.getElem?_eq_none (by simpa using h)]; rfl
theorem rngC_len {lo c : Int} {n : Nat} : (rngC lo c n).length = n := by unfold rngC; simp
theorem its_range {ms0 H0 lo n} : ItS G (Itr lo n) (rngL lo n) none ms0 H0 where
  stop := fun ms H S i w s go hi => by rw [rngL_len] at hi; exact hi
  go := fun ms H S i x w s go hi => by
    rw [rngL_get] at hi
    split at hi
    · assumption
    · cases hi
  yld := fun ms H S i x v H' w s go hi y => by
    rw [rngL_get] at hi
    split at hi
    · cases hi
      obtain ⟨e, e2⟩ := y
      subst e e2
      exact ⟨.refl, s, .int _⟩
    · cases hi
theorem its_rangeC {ms0 H0 lo c n} : ItS G (Itc lo c n) (rngC lo c n) none ms0 H0 where
  stop := fun ms H S i w s go hi => by rw [rngC_len] at hi; exact hi
  go := fun ms H S i x w s go hi => by
    rw [rngC_get] at hi
    split at hi
    · assumption
    · cases hi
  yld := fun ms H S i x v H' w s go hi y => by
    rw [rngC_get] at hi
    split at hi
    · cases hi
      obtain ⟨e, e2⟩ := y
      subst e e2
      exact ⟨.refl, s, .int _⟩
    · cases hi
theorem its_str {ms0 H0 z} : ItS G (Its z) (z.cps.toList.map fun c => T.str ⟨#[c]⟩) none ms0 H0 where
  stop := fun ms H S i w s go hi => by
    show z.cps.size ≤ i
    simpa using hi
  go := fun ms H S i x w s go hi => by
    rw [List.getElem?_map] at hi
    cases e : z.cps.toList[i]? with
    | none => rw [e] at hi; cases hi
    | some c =>
      have := (List.getElem?_eq_some_iff.mp e).1
      show i < z.cps.size
      simpa using this
  yld := fun ms H S i x v H' w s go hi y => by
    obtain ⟨e, c, e2, e3⟩ := y
    subst e e3
    rw [List.getElem?_map, Array.getElem?_toList, e2] at hi
    cases hi
    exact ⟨.refl, s, .str _⟩
theorem pairT {ms H S} (s : Sim G ms H S) {T0 : Addr} (h : H T0 = none) {x y : T} {v w : V} (r : RT G ms H x v) (q : RT G ms H y w) : Grow ms H ms (upd H T0 (.tup [v, w])) ∧ Sim G ms (upd H T0 (.tup [v, w])) S ∧ RT G ms (upd H T0 (.tup [v, w])) (.tup [x, y]) (.ref T0) :=
  ⟨Grow.laid s h _, s.laid h _, .tup (.inl ⟨.inl upd_same, s.fresh h⟩) (rts_laid s h (.cons r (.cons q .nil)))⟩
theorem enumT_len : ∀ {n : Nat} {l : List T}, (enumT n l).length = l.length
  | _, [] => rfl
  | n, _ :: r => congrArg (· + 1) (enumT_len (n := n + 1) (l := r))
theorem enumT_get : ∀ {n : Nat} {l : List T} {i : Nat} {x : T}, (enumT n l)[i]? = some x → ∃ y : T, l[i]? = some y ∧ x = T.tup [T.int ((n + i : Nat) : Int), y]
  | n, [], i, x, h => by simp [enumT] at h
  | n, y :: r, 0, x, h => by
    simp [enumT] at h
    exact ⟨y, rfl, h.symm⟩
  | n, y :: r, i + 1, x, h => by
    obtain ⟨z, e1, e2⟩ := enumT_get (n := n + 1) (l := r) (i := i) (by simpa [enumT] using h)
    refine ⟨z, by simpa using e1, ?_⟩
    rw [e2]
    have : n + 1 + i = n + (i + 1) := by omega
    rw [this]
theorem its_enum {ms0 H0 l g a} (h : ∀ ms H S, Gw ms0 H0 ms H → Sim G ms H S → gOk g S → ∃ xs, H a = some (.lst xs) ∧ RTs G ms H l xs) : ItS G (Ite G.K a) (enumT 0 l) g ms0 H0 where
  stop := fun ms H S i w s go hi => by
    obtain ⟨xs, e, r⟩ := h ms H S w s go
    exact ⟨xs, SqL.of e, by rw [← r.length]; rw [enumT_len] at hi; exact hi⟩
  go := fun ms H S i x w s go hi => by
    obtain ⟨xs, e, r⟩ := h ms H S w s go
    obtain ⟨y, e2, _⟩ := enumT_get hi
    obtain ⟨v, e1, _⟩ := r.get e2
    exact ⟨xs, v, SqL.of e, e1⟩
  yld := fun ms H S i x v H' w s go hi y => by
    obtain ⟨xs, e, r⟩ := h ms H S w s go
    obtain ⟨y', e2, e3⟩ := enumT_get hi
    obtain ⟨v', e1, r1⟩ := r.get e2
    obtain ⟨T0, x', q1, q2, q3, q4⟩ := y
    subst q1 q3
    have := q4 xs (SqL.of e)
    rw [e1] at this; cases this
    rw [e3, Nat.zero_add]
    exact pairT s q2 (.int _) r1
theorem zipT_get : ∀ {l k : List T} {i : Nat} {x : T}, (zipT l k)[i]? = some x → ∃ y z : T, l[i]? = some y ∧ k[i]? = some z ∧ x = T.tup [y, z]
  | [], _, i, x, h => by simp [zipT] at h
  | _ :: _, [], i, x, h => by simp [zipT] at h
  | y :: r, z :: q, 0, x, h => by
    simp [zipT] at h
    exact ⟨y, z, rfl, rfl, h.symm⟩
  | y :: r, z :: q, i + 1, x, h => by
    obtain ⟨a, b, e1, e2, e3⟩ := zipT_get (l := r) (k := q) (i := i) (by simpa [zipT] using h)
    exact ⟨a, b, by simpa using e1, by simpa using e2, e3⟩
theorem zipT_len : ∀ {l k : List T} {i : Nat}, (zipT l k).length ≤ i → l.length ≤ i ∨ k.length ≤ i
  | [], _, i, h => .inl (Nat.zero_le _)
  | _ :: _, [], i, h => .inr (Nat.zero_le _)
  | y :: r, z :: q, i, h => by
    cases i with
    | zero => simp [zipT] at h
    | succ i =>
      have := zipT_len (l := r) (k := q) (i := i) (by simpa [zipT] using h)
      simpa using this
theorem its_zip {ms0 H0 l k a b xs ys} (h : ∀ ms H, Gw ms0 H0 ms H → SqL G.K H a xs) (h' : ∀ ms H, Gw ms0 H0 ms H → SqL G.K H b ys) (r : RTs G ms0 H0 l xs) (r' : RTs G ms0 H0 k ys) : ItS G (Itz G.K a b) (zipT l k) none ms0 H0 where
  stop := fun ms H S i w s go hi => ⟨xs, ys, h _ _ w, h' _ _ w, by rw [← r.length, ← r'.length]; exact zipT_len hi⟩
  go := fun ms H S i x w s go hi => by
    obtain ⟨y, z, e1, e2, _⟩ := zipT_get hi
    obtain ⟨v, q1, _⟩ := r.get e1
    obtain ⟨u, q2, _⟩ := r'.get e2
    exact ⟨xs, ys, v, u, h _ _ w, h' _ _ w, q1, q2⟩
  yld := fun ms H S i x v H' w s go hi y => by
    obtain ⟨y', z', e1, e2, e3⟩ := zipT_get hi
    obtain ⟨v', q1, r1⟩ := (r.gw w).get e1
    obtain ⟨u', q2, r2⟩ := (r'.gw w).get e2
    obtain ⟨T0, x', z0, q3, q4, q5, q6, q7⟩ := y
    subst q3 q5
    have z1 := q6 xs (h _ _ w)
    have z2 := q7 ys (h' _ _ w)
    rw [q1] at z1; cases z1
    rw [q2] at z2; cases z2
    rw [e3]
    exact pairT s q4 r1 r2
theorem its_zipT {ms0 H0 l k a b xs ys} (h : ∀ ms H, Gw ms0 H0 ms H → SqT G.K H a xs) (h' : ∀ ms H, Gw ms0 H0 ms H → SqT G.K H b ys) (r : RTs G ms0 H0 l xs) (r' : RTs G ms0 H0 k ys) : ItS G (RZ.ItzT G.K a b) (zipT l k) none ms0 H0 where
  stop := fun ms H S i w s go hi => ⟨xs, ys, h _ _ w, h' _ _ w, by rw [← r.length, ← r'.length]; exact zipT_len hi⟩
  go := fun ms H S i x w s go hi => by
    obtain ⟨y, z, e1, e2, _⟩ := zipT_get hi
    obtain ⟨v, q1, _⟩ := r.get e1
    obtain ⟨u, q2, _⟩ := r'.get e2
    exact ⟨xs, ys, v, u, h _ _ w, h' _ _ w, q1, q2⟩
  yld := fun ms H S i x v H' w s go hi y => by
    obtain ⟨y', z', e1, e2, e3⟩ := zipT_get hi
    obtain ⟨v', q1, r1⟩ := (r.gw w).get e1
    obtain ⟨u', q2, r2⟩ := (r'.gw w).get e2
    obtain ⟨T0, x', z0, q3, q4, q5, q6, q7⟩ := y
    subst q3 q5
    have z1 := q6 xs (h _ _ w)
    have z2 := q7 ys (h' _ _ w)
    rw [q1] at z1; cases z1
    rw [q2] at z2; cases z2
    rw [e3]
    exact pairT s q4 r1 r2
end
section
variable {p : Pg} {n : Nat} {X : Cx} {sc : Scope} {B : Bs} {E : XPost}
def lI (p : Pg) (n : Nat) (B : Bs) (it : It) (E : XPost) : TI := fun σ H R => ∃ ms S σI, At p.G B ms H S σI σ ∧ wpI (cfp p n) p.ge p.up it E σI S fun l g S1 => ∀ J ms' H', Grow ms H ms' H' → Sim p.G ms' H' S1 → ItS p.G J l g ms' H' → R J H'
theorem lI_into (it : It) {ms H S σI σ} {k : List T → Option (Nat × List T) → Sto → Prop} {R : L2.It → Hp → Prop} (a : At p.G B ms H S σI σ) (h : wpI (cfp p n) p.ge p.up it E σI S k)
    (hk : ∀ l g S' J ms' H', Grow ms H ms' H' → Sim p.G ms' H' S' → ItS p.G J l g ms' H' → k l g S' → R J H') : lI p n B it E σ H R :=
  ⟨ms, S, σI, a, wpI_mono (cfn_mono n) it (fun _ _ _ q => q) (fun l g S' q J ms' H' gg s i => hk l g S' J ms' H' gg s i q) h⟩
/-- what stands behind a value that is walked -/
theorem seq_cases {ms H S} (s : Sim p.G ms H S) {d : D} {v : V} (r : RD p.G ms H d v) {k : List T → Option (Nat × List T) → Prop} (h : seqD d S k) :
    (∃ l g a, v = .ref a ∧ k l g ∧ (∃ xs, H a = some (.lst xs)) ∧ ∀ ms2 H2 S2, Gw ms H ms2 H2 → Sim p.G ms2 H2 S2 → gOk g S2 → ∃ xs, H2 a = some (.lst xs) ∧ RTs p.G ms2 H2 l xs) ∨
    (∃ l a xs, v = .ref a ∧ k l none ∧ TupAt p.G.K ms H a xs ∧ RTs p.G ms H l xs) ∨ ∃ z, v = .str z ∧ k (z.cps.toList.map fun c => T.str ⟨#[c]⟩) none := by
  unfold seqD at h
  split at h
  · cases r with
    | t r => cases r with
      | tup h1 h2 => exact .inr (.inl ⟨_, _, _, rfl, h, h1, h2⟩)
  · cases r with
    | t r => cases r with
      | lst h1 h2 h3 => exact .inl ⟨_, _, _, rfl, h, ⟨_, h1⟩, fun ms2 H2 S2 w s2 _ => ⟨_, (w.keep _ _ h1 h2).1, h3.gw w⟩⟩
  · cases r with
    | t r => cases r; exact .inr (.inr ⟨_, rfl, h⟩)
  · cases r with
    | r hn =>
      split at h
      · rename_i l e
        obtain ⟨a, e1, ro⟩ := s.ob _ _ e
        rw [hn] at e1; cases e1
        cases ro with
        | lst h1 h2 =>
          refine .inl ⟨_, _, _, rfl, h, ⟨_, h1⟩, fun ms2 H2 S2 w s2 go => ?_⟩
          obtain ⟨a', e2, ro2⟩ := s2.ob _ _ (show nth S2 _ = some (.lst l) from go)
          have := w.idx _ _ hn
          rw [this] at e2; cases e2
          cases ro2 with
          | lst q1 q2 => exact ⟨_, q1, q2⟩
      · exact h.elim
  · exact h.elim
theorem i_ex {e : Ex} {pe tg : Expr} (ok : XOk p X sc n) (h : PE X pe (lE p.G B (tE p n e E))) : PI X tg pe (lI p n B (.ex e) E) := by
  refine ⟨fun pins s σ H R I q => ?_⟩
  obtain ⟨ms, S, σI, a, q⟩ := q
  refine thn (h.run pins s σ H (fun v H1 => ∃ ms1 S1 d, Grow ms H ms1 H1 ∧ Sim p.G ms1 H1 S1 ∧ RD p.G ms1 H1 d v ∧ seqD d S1 fun l g => ∀ J ms' H', Grow ms H ms' H' → Sim p.G ms' H' S1 → ItS p.G J l g ms' H' → R J H') I
    (lE_into (mE e E) a q fun d S1 v ms1 H1 g s r q => ⟨ms1, S1, d, g, s, r, q⟩)) fun u s1 hq => ?_
  obtain ⟨v, H1, I1, rv, ms1, S1, d, g1, sm1, rd, q⟩ := hq
  rcases seq_cases sm1 rd q with ⟨l, g, ad, rfl, k, ⟨xs, hx⟩, hl⟩ | ⟨l, ad, xs, rfl, k, ht, hr⟩ | ⟨z, rfl, k⟩
  · obtain rfl : u = Value.ref ad := rv
    obtain ⟨its, rv, pp, hz⟩ := I1.list (SqL.of (K := X.K) hx)
    refine wpAny_pyIter_list pp.isList ?_
    refine ⟨s1.heap.objs.size, [s1.heap.objs.size], _, _, H1, rfl, I1.kept (t' := s1.toks) fun b o e => Heap.get?_push_of_some _ e, turn_list ad _, ⟨_, Heap.get?_push_size _ rfl, rfl, rfl⟩, fun b hb => ?_, ?_⟩
    · have e : b = s1.heap.objs.size := by simpa using hb
      subst e
      exact I1.fpOk (Nat.le_refl _) (I1.hok.fresh (Nat.le_refl _))
    · rw [ok.K]
      exact k _ _ _ g1 sm1 (its_list hl)
  · obtain rfl : u = Value.ref ad := rv
    obtain ⟨its, rv, pp, hz⟩ := I1.tuple (ok.K ▸ ht.sq)
    refine wpAny_pyIter_tuple (show s1.heap.IsTuple ad its.toArray from pp) ?_
    refine ⟨s1.heap.objs.size, [s1.heap.objs.size], _, _, H1, rfl, I1.kept (t' := s1.toks) fun b o e => Heap.get?_push_of_some _ e, turn_tuple ad _, ⟨_, Heap.get?_push_size _ rfl, rfl, rfl⟩, fun b hb => ?_, ?_⟩
    · have e : b = s1.heap.objs.size := by simpa using hb
      subst e
      exact I1.fpOk (Nat.le_refl _) (I1.hok.fresh (Nat.le_refl _))
    · rw [ok.K]
      exact k _ _ _ g1 sm1 (its_tup ht hr)
  · obtain ⟨t, rfl⟩ := rv
    have q := k _ _ _ g1 sm1 its_str
    cases ha : z.cps.all (· < 128)
    · exact wpAny_pyIter_wide ha (pi_one (tk := s1.toks) I1 _ (turn_str _ z t "str_iterator" (.inr rfl)) ⟨_, Heap.get?_push_size _ rfl, rfl, rfl⟩ q)
    · exact wpAny_pyIter_ascii ha (pi_one (tk := s1.toks) I1 _ (turn_str _ z t "str_ascii_iterator" (.inl rfl)) ⟨_, Heap.get?_push_size _ rfl, rfl, rfl⟩ q)
theorem RDs.three {G : Gx} {ms H} {d e f : D} {xs : List V} (h : RDs G ms H [d, e, f] xs) : ∃ v w u, xs = [v, w, u] ∧ RD G ms H d v ∧ RD G ms H e w ∧ RD G ms H f u := by
  cases h with | cons h r => cases r with | cons h' r => cases r with | cons h2 r => cases r; exact ⟨_, _, _, rfl, h, h', h2⟩
theorem rgc_ok {i j c : Int} (q1 : 0 ≤ i) (q2 : i < 4611686018427387904) (q3 : -4611686018427387904 ≤ j) (q4 : j < 4611686018427387904) (q5 : 0 < c) (q6 : c < 1073741824) : RgC i j c ((j - i + c - 1) / c).toNat := by
  have hs : Builtin.Range.rangeSize i j c = (((j - i + c - 1) / c).toNat : Nat) := by
    unfold Builtin.Range.rangeSize
    rw [if_pos (show c > 0 from q5)]
    by_cases h : i < j
    · rw [if_pos h]
      have e : j - i + c - 1 = (j - i - 1) + 1 * c := by omega
      rw [e, Int.add_mul_ediv_right _ _ (by omega)]
      have : 0 ≤ (j - i - 1) / c := Int.ediv_nonneg (by omega) (by omega)
      omega
    · rw [if_neg h]
      have : (j - i + c - 1) / c ≤ 0 := by
        have : (j - i + c - 1) / c < 1 := Int.ediv_lt_of_lt_mul (by omega) (by omega)
        omega
      omega
  refine ⟨by omega, by omega, ?_, hs⟩
  unfold Builtin.Range.small
  rw [hs]
  have hn : (((j - i + c - 1) / c).toNat : Int) < 9223372036854775807 := by
    by_cases h : j - i + c - 1 < 0
    · have : (j - i + c - 1) / c < 0 := Int.ediv_lt_of_lt_mul q5 (by omega)
      omega
    · have := Int.ediv_le_self (a := j - i + c - 1) c (by omega)
      omega
  generalize ((j - i + c - 1) / c).toNat = m at *
  have fits : ∀ k : Int, -9223372036854775808 ≤ k → k < 9223372036854775808 → Builtin.Range.rangeFitsLong k = true := fun k h1 h2 => by
    unfold Builtin.Range.rangeFitsLong
    rw [Bool.and_eq_true, decide_eq_true_eq, decide_eq_true_eq]
    exact ⟨by omega, by omega⟩
  rw [fits i (by omega) (by omega), fits j (by omega) (by omega), fits c (by omega) (by omega), fits _ (by omega) (by omega), if_pos (show c > 0 from q5), fits _ (by omega) (by omega)]
  simp
theorem bl_none (fx : Fct p n) (ok : XOk p X sc n) {x : Str} (h : x ∈ bltNames) : X.mg x = none := by rw [ok.mg]; exact fx.blt _ h
theorem i_range {es : Exs} {x : Str} {ps : List Expr} {tg : Expr} {p1 pos : Pos} (fx : Fct p n) (ok : XOk p X sc n) (hx : x = ("range" : Str)) (hg : glB sc x = true) (hl : ps.length ≠ 0) (hl3 : ps.length ≤ 3) (hm : mtL p.nm X.N es sc ps = true)
    (ha : PA X ps (lA p.G B (tL p n es E))) : PI X tg (.Call (.Name x p1) ps [] pos) (lI p n B (.range es) E) := by
  subst hx
  have hG := Gl_of ok hg
  have hmg : X.mg ("range" : Str) = none := bl_none fx ok (by simp [bltNames])
  have hpw : (2 : Int) ^ 62 = 4611686018427387904 := by decide
  have go : ∀ {σ H} {R : L2.It → Hp → Prop} {W : List V → Hp → Prop}, lI p n B (.range es) E σ H R → (∀ ds vs S1 ms1 H1 ms0 H0, Grow ms0 H0 ms1 H1 → Sim p.G ms1 H1 S1 → RDs p.G ms1 H1 ds vs → ds.length = ps.length → rngD ds S1 (fun l => ∀ J ms' H', Grow ms0 H0 ms' H' → Sim p.G ms' H' S1 → ItS p.G J l none ms' H' → R J H') → W vs H1) →
      lA p.G B (tL p n es E) σ H W := fun {σ H R W} q hW => by
    obtain ⟨ms, S, σI, a, q⟩ := q
    refine lA_into es a (mtL_len hm q) fun ds S1 vs ms1 H1 g s r q => hW ds vs S1 ms1 H1 ms H g s r q.1 q.2
  have i1 : ∀ {ms H} {j : Int} {v : V}, RD p.G ms H (.t (.int j)) v → v = .int j := fun h => h.intE
  rcases ps with _ | ⟨a, _ | ⟨b, _ | ⟨c, _ | ⟨d, r⟩⟩⟩⟩
  · exact absurd rfl hl
  · obtain ⟨hp, es', hr⟩ := mtL_first hm
    refine PI.weak (pi_range1 hG hmg ha (by rw [star_plain hp]; rfl)) fun σ H R q => go q fun ds vs S1 ms1 H1 ms0 H0 g s r hz q => ?_
    unfold rngD at q
    split at q
    · obtain ⟨v1, rfl, h1⟩ := r.one
      obtain rfl := i1 h1
      exact ⟨_, rfl, by have := q.1.1; omega, by have := q.1.2; omega, q.2 _ _ _ g s its_range⟩
    · cases hz
    · cases hz
    · exact q.elim
  · obtain ⟨hp, es', hr⟩ := mtL_first hm
    obtain ⟨hp2, es2, hr2⟩ := mtL_first hr
    refine PI.weak (pi_range2 hG hmg ha (by rw [star_plain hp, star_plain hp2]; rfl) (by rw [star_plain hp2]; rfl)) fun σ H R q => go q fun ds vs S1 ms1 H1 ms0 H0 g s r hz q => ?_
    unfold rngD at q
    split at q
    · cases hz
    · obtain ⟨v1, v2, rfl, h1, h2⟩ := r.two
      obtain rfl := i1 h1
      obtain rfl := i1 h2
      obtain ⟨⟨⟨q1, q2⟩, q3, q4⟩, q5⟩ := q
      exact ⟨_, _, rfl, ⟨by omega, by omega, by omega, by omega⟩, q5 _ _ _ g s its_range⟩
    · cases hz
    · exact q.elim
  · obtain ⟨hp, es', hr⟩ := mtL_first hm
    refine PI.weak (pi_range3 hG hmg ha (star_plain hp) (mtL_star hr pos).1) fun σ H R q => go q fun ds vs S1 ms1 H1 ms0 H0 g s r hz q => ?_
    unfold rngD at q
    split at q
    · cases hz
    · cases hz
    · obtain ⟨v1, v2, v3, rfl, h1, h2, h3⟩ := r.three
      obtain rfl := i1 h1
      obtain rfl := i1 h2
      obtain rfl := i1 h3
      obtain ⟨⟨q0, ⟨q1, q2⟩, ⟨q3, q4⟩, q5, q6⟩, q7⟩ := q
      refine ⟨_, _, _, _, rfl, ?_, q7 _ _ _ g s its_rangeC⟩
      exact rgc_ok q0 q2 q3 q4 q5 q6
    · exact q.elim
  · simp at hl3
end
end MP

set_option Elab.async false
set_option linter.all false
set_option maxRecDepth 100000
set_option maxHeartbeats 1000000
namespace MP
open PySem L2 PySem.Spec
open PyProof.Rows hiding St
section
variable {p : Pg} {n : Nat} {X : Cx} {sc : Scope} {B : Bs} {E : XPost}
/-! ### pairs that are walked -/
theorem i_zip {a b : Ex} {x : Str} {pa pb : Expr} {elts : List Expr} {kk : Nat} {tpos p1 pos : Pos} (fx : Fct p n) (ok : XOk p X sc n) (hx : x = ("zip" : Str)) (hg : glB sc x = true) (hpa : plainE pa = true) (hpb : plainE pb = true)
    (ha : PE X pa (lE p.G B (tE p n a E))) (hb : PE X pb (lE p.G B (tE p n b E))) : PI X (.Tuple elts kk tpos) (.Call (.Name x p1) [pa, pb] [] pos) (lI p n B (.zip a b) E) := by
  subst hx
  have h2 : PA X [pa, pb] (tCons (lE p.G B (tE p n a E)) (tCons (lE p.G B (tE p n b E)) tNil)) := pa_cons ha (pa_cons hb pa_nil (star_plain hpb)) (star_plain hpa)
  refine PI.weak (RZ.pi_zipA (Gl_of ok hg) (bl_none fx ok (by simp [bltNames])) h2 (star_plain hpa) (by rw [star_plain hpb]; rfl)) fun σ H R q => ?_
  obtain ⟨ms, S, σI, at_, q⟩ := q
  refine lE_into (mE a E) at_ q fun d1 S1 v1 ms1 H1 g1 s1 r1 q => lE_into (mE b E) (at_.next g1 s1) q fun d2 S2 v2 ms2 H2 g2 s2 r2 q => ?_
  have r1 := r1.grow g2
  unfold zipD at q
  split at q
  · cases r1 with | t r1 => cases r1 with | tup h1 k1 => cases r2 with | t r2 => cases r2 with | tup h2 k2 =>
    refine ⟨_, _, _, _, rfl, .inr ⟨ok.K ▸ h1.sq, ok.K ▸ h2.sq, ?_⟩⟩
    rw [ok.K]
    exact q _ _ _ (g1.trans g2) s2 (its_zipT (fun ms H w => (h1.gw w).sq) (fun ms H w => (h2.gw w).sq) k1 k2)
  · cases r1 with | t r1 => cases r1 with | lst h1 n1 k1 => cases r2 with | t r2 => cases r2 with | lst h2 n2 k2 =>
    refine ⟨_, _, _, _, rfl, .inl ⟨SqL.of h1, SqL.of h2, ?_⟩⟩
    rw [ok.K]
    exact q _ _ _ (g1.trans g2) s2 (its_zip (fun ms H w => SqL.of (w.keep _ _ h1 n1).1) (fun ms H w => SqL.of (w.keep _ _ h2 n2).1) k1 k2)
  · exact q.elim
theorem i_enum {a : Ex} {x : Str} {pa : Expr} {elts : List Expr} {kk : Nat} {tpos p1 pos : Pos} (fx : Fct p n) (ok : XOk p X sc n) (hx : x = ("enumerate" : Str)) (hg : glB sc x = true) (hpa : plainE pa = true)
    (ha : PE X pa (lE p.G B (tE p n a E))) : PI X (.Tuple elts kk tpos) (.Call (.Name x p1) [pa] [] pos) (lI p n B (.enum a) E) := by
  subst hx
  have h2 : PA X [pa] (tCons (lE p.G B (tE p n a E)) tNil) := pa_cons ha pa_nil (star_plain hpa)
  refine PI.weak (pi_enum (Gl_of ok hg) (bl_none fx ok (by simp [bltNames])) h2 (by rw [star_plain hpa]; rfl)) fun σ H R q => ?_
  obtain ⟨ms, S, σI, at_, q⟩ := q
  refine lE_into (mE a E) at_ q fun d1 S1 v1 ms1 H1 g1 s1 r1 q => ?_
  unfold enuD at q
  split at q
  · cases r1 with | t r1 => cases r1 with | lst h1 n1 k1 =>
    refine ⟨_, _, rfl, SqL.of h1, ?_⟩
    rw [ok.K]
    exact q _ _ _ g1 s1 (its_enum fun ms H S w _ _ => ⟨_, (w.keep _ _ h1 n1).1, k1.gw w⟩)
  · exact q.elim
/-! ### targets -/
/-- the slots but those of l are as they were -/
def Agr (l : List Nat) (σ σ' : L2.St) : Prop := σ'.length = σ.length ∧ ∀ i, i ∉ l → σ'[i]? = σ[i]?
def lG (p : Pg) (n : Nat) (B : Bs) (tg : Tg) (E : XPost) : TG := fun v σ H Q => ∃ ms S σI d, At p.G B ms H S σI σ ∧ RD p.G ms H d v ∧ wpG (cfp p n) p.ge p.up tg E d σI S fun σI' S' =>
  ∀ σ' ms' H', Agr (tgVars tg) σ σ' → Grow ms H ms' H' → Sim p.G ms' H' S' → Sl p.G ms' H' σI' σ' → Q σ' H'
def lGs (p : Pg) (n : Nat) (B : Bs) (ts : Tgs) (E : XPost) : TGs := fun vs σ H Q => ∃ ms S σI l, At p.G B ms H S σI σ ∧ RTs p.G ms H l vs ∧ l.length = tgsLen ts ∧ wpGs (cfp p n) p.ge p.up ts E l σI S fun σI' S' =>
  ∀ σ' ms' H', Agr (tgsVars ts) σ σ' → Grow ms H ms' H' → Sim p.G ms' H' S' → Sl p.G ms' H' σI' σ' → Q σ' H'
theorem PGs.weak {e : List Expr} {t t' : TGs} (h : PGs X e t) (k : ∀ v σ H Q, t' v σ H Q → t v σ H Q) : PGs X e t' := ⟨fun pins s σ H v u Q I r q => h.run pins s σ H v u Q I r (k v σ H Q q)⟩
theorem mG (tg : Tg) {d σ S} {k k' : Sg → Sto → Prop} (h : ∀ σ S, k σ S → k' σ S) (q : wpG (cfp p n) p.ge p.up tg E d σ S k) : wpG (cfp p n) p.ge p.up tg E d σ S k' := wpG_mono (cfn_mono n) tg (fun _ _ _ q => q) h q
theorem mGs (tg : Tgs) {d σ S} {k k' : Sg → Sto → Prop} (h : ∀ σ S, k σ S → k' σ S) (q : wpGs (cfp p n) p.ge p.up tg E d σ S k) : wpGs (cfp p n) p.ge p.up tg E d σ S k' := wpGs_mono (cfn_mono n) tg d (fun _ _ _ q => q) h q
theorem Sl.set {G : Gx} {ms H σI σ i d v} (h : Sl G ms H σI σ) (r : RD G ms H d v) : Sl G ms H (σI.set i (some d)) (σ.set i (some v)) := by
  refine ⟨by rw [List.length_set, List.length_set, h.1], fun j e hj => ?_⟩
  by_cases hi : i = j
  · subst hi
    have hl := nth_lt hj
    rw [List.length_set] at hl
    rw [nth_set_self hl] at hj
    cases hj
    exact ⟨v, List.getElem?_set_self (by rw [← h.1]; exact hl), r⟩
  · rw [nth_set_ne hi] at hj
    obtain ⟨w, e1, e2⟩ := h.2 j e hj
    exact ⟨w, by rw [List.getElem?_set_ne hi]; exact e1, e2⟩
theorem g_var {i : Nat} {x : Str} {pos : Pos} (ok : XOk p X sc n) (hi : X.N[i]? = some x) (hl : locB sc x = true) : PG X (.Name x pos) (lG p n B (.var i) E) :=
  PG.weak (pg_name ok.nd hi (ok.lo x (locB_of hl)).1 (ok.lo x (locB_of hl)).2) fun v σ H Q q => by
    obtain ⟨ms, S, σI, d, a, r, q⟩ := q
    exact q _ _ _ ⟨List.length_set, fun j hj => List.getElem?_set_ne fun z => hj (by rw [z]; simp [tgVars])⟩ .refl a.sm (a.sl.set r)
theorem gs_nil : PGs X [] (lGs p n B .nil E) := PGs.weak pgs_nil fun v σ H Q q => by
  obtain ⟨ms, S, σI, l, a, r, hl, q⟩ := q
  cases r with
  | nil => exact ⟨rfl, q _ _ _ ⟨rfl, fun _ _ => rfl⟩ .refl a.sm a.sl⟩
  | cons _ _ => cases hl
theorem aE_plain {e : Expr} {es : List Expr} {env : Env} (h : plainE e = true) : assignEach (e :: es) env = (false, assign e env) :: assignEach es env := by
  cases e <;> first | rfl | cases h
theorem gs_cons {t : Tg} {r : Tgs} {pe : Expr} {ps : List Expr} (hB : B.sg = none) (hp : plainE pe = true) (h : PG X pe (lG p n B t E)) (hr : PGs X ps (lGs p n B r E)) : PGs X (pe :: ps) (lGs p n B (.cons t r) E) :=
  PGs.weak (pgs_cons h hr (by rw [aE_plain hp]; rfl)) fun v σ H Q q => by
    obtain ⟨ms, S, σI, l, a, rr, hl, q⟩ := q
    cases rr with
    | nil => cases hl
    | cons r1 rr =>
      refine ⟨_, _, rfl, ms, S, σI, _, a, .t r1, mG t (fun σ1 S1 q σ' ms' H' hag g s sl => ?_) q⟩
      refine ⟨ms', S1, σ1, _, ⟨a.g.next g, fun s0 e => (by rw [hB] at e; cases e), s, sl⟩, rr.grow g, by simpa [tgsLen] using hl, mGs r (fun σ2 S2 q σ'' ms'' H'' hag2 g2 s2 sl2 => ?_) q⟩
      refine q _ _ _ ⟨hag2.1.trans hag.1, fun i hi => ?_⟩ (g.trans g2) s2 sl2
      simp only [tgsVars, List.mem_append, not_or] at hi
      rw [hag2.2 i hi.2, hag.2 i hi.1]
theorem g_tup {ts : Tgs} {ps : List Expr} {k : Nat} {pos : Pos} (ok : XOk p X sc n) (h : PGs X ps (lGs p n B ts E)) (hl : (assignEach ps X.env).length = tgsLen ts) (hst : (assignEach ps X.env).findIdx? (·.1) = none) : PG X (.Tuple ps k pos) (lG p n B (.tup ts) E) :=
  PG.weak (pg_tup ok.calm h hl hst) fun v σ H Q q => by
    obtain ⟨ms, S, σI, d, a, r, q⟩ := q
    unfold wpG unpD at q
    split at q
    · rename_i l
      cases r with
      | t r =>
        cases r with
        | tup h1 h2 =>
          by_cases hz : l.length = tgsLen ts
          · rw [decide_eq_true hz] at q
            exact ⟨_, _, rfl, ok.K ▸ h1.sq, by rw [← h2.length]; exact hz, ms, S, σI, l, a, h2, hz, q⟩
          · rw [decide_eq_false hz] at q
            exact q.elim
    · exact q.elim
def lSet (G : Gx) : TSet := fun o i v H Q => ∃ ms S do_ di d, Sim G ms H S ∧ RD G ms H do_ o ∧ RD G ms H di i ∧ RD G ms H d v ∧ setD do_ di d S fun S' => ∀ ms' H', Grow ms H ms' H' → Sim G ms' H' S' → Q H'
theorem kput_of {G : Gx} {ms H} : ∀ {l : List (Key × T)} {xs : List (Key × V)} (k : Key) {x : T} {v : V}, RKs G ms H l xs → RT G ms H x v → RKs G ms H (kput l k x) (putK xs k v) := by
  intro l xs k x v r rx
  have hany : ∀ {l : List (Key × T)} {xs : List (Key × V)}, RKs G ms H l xs → (l.any fun kv => decide (kv.1 = k)) = (xs.any fun kv => decide (kv.1 = k)) := by
    intro l xs r
    induction l generalizing xs with
    | nil => cases r; rfl
    | cons p l ih =>
      cases r with
      | cons h1 h2 => simp only [List.any_cons, ih h2]
  have hmap : ∀ {l : List (Key × T)} {xs : List (Key × V)}, RKs G ms H l xs → RKs G ms H (l.map fun kv => if kv.1 = k then (kv.1, x) else kv) (xs.map fun kv => if kv.1 = k then (kv.1, v) else kv) := by
    intro l xs r
    induction l generalizing xs with
    | nil => cases r; exact .nil
    | cons p l ih =>
      cases r with
      | cons h1 h2 =>
        simp only [List.map_cons]
        split
        · exact .cons rx (ih h2)
        · exact .cons h1 (ih h2)
  have happ : ∀ {l : List (Key × T)} {xs : List (Key × V)}, RKs G ms H l xs → RKs G ms H (l ++ [(k, x)]) (xs ++ [(k, v)]) := by
    intro l xs r
    induction l generalizing xs with
    | nil => cases r; exact .cons rx .nil
    | cons p l ih =>
      cases r with
      | cons h1 h2 => exact .cons h1 (ih h2)
  unfold kput putK
  rw [hany r]
  split
  · exact hmap r
  · exact happ r
theorem set_ok (ok : XOk p X sc n) : PSet X (lSet p.G) := by
  intro pins s σ H o i v ov iv u Q I ro ri rv h
  obtain ⟨ms, S, do_, di, d, sm, h1, h2, h3, q⟩ := h
  unfold setD at q
  split at q
  · rename_i nr x y
    cases h1 with | r hn => cases h2 with | t h2 => cases h3 with | t h3 =>
    split at q
    · rename_i l e
      obtain ⟨a, e1, ror⟩ := sm.ob _ _ e
      rw [hn] at e1; cases e1
      cases ror with
      | lst q1 q2 =>
        split at q
        · rename_i k
          cases h2
          split at q
          · rename_i j ej
            refine set_list pins s σ H _ _ v ov iv u Q I ro ri rv ⟨_, _, k, j, rfl, rfl, q1, by rw [← q2.length]; exact ej, ?_⟩
            refine q ms _ (Grow.write sm hn _) (sm.write hn _ (.lst upd_same ?_))
            exact (q2.set j h3).grow (Grow.write sm hn _)
          · exact q.elim
        · exact q.elim
    · rename_i l e
      obtain ⟨a, e1, ror⟩ := sm.ob _ _ e
      rw [hn] at e1; cases e1
      cases ror with
      | dct q1 q2 =>
        split at q
        · rename_i kk ek
          have := key_of h2 ek
          subst this
          refine set_dict (hu1 ok) pins s σ H _ _ v ov iv u Q I ro ri rv ⟨_, _, rfl, DPut.k q1 (by rw [sizeLine_eq, ← q2.length]; exact q.1), ?_⟩
          exact q.2 ms _ (Grow.write sm hn _) (sm.write hn _ (.dct upd_same ((kput_of kk q2 h3).grow (Grow.write sm hn _))))
        · exact q.elim
    · exact q.elim
  · exact q.elim
theorem g_ix {o i : Ex} {po pi_ : Expr} {pos : Pos} (ok : XOk p X sc n) (hp : plainE pi_ = true) (ho : PE X po (lE p.G B (tE p n o E))) (hi : PE X pi_ (lE p.G B (tE p n i E))) : PG X (.Subscript po pi_ pos) (lG p n B (.ix o i) E) :=
  PG.weak (pg_sub ho hi (set_ok ok) (fun v => by rw [arm_assign_Subscript]; cases pi_ <;> first | rfl | cases hp)) fun v σ H Q q => by
    obtain ⟨ms, S, σI, d, a, r, q⟩ := q
    refine lE_into (mE o E) a q fun d1 S1 v1 ms1 H1 g1 s1 r1 q => lE_into (mE i E) (a.next g1 s1) q fun d2 S2 v2 ms2 H2 g2 s2 r2 q => ?_
    exact ⟨ms2, S2, d1, d2, d, s2, r1.grow g2, r2, (r.grow g1).grow g2, setD_mono (fun S3 q ms3 H3 g3 s3 => q σ ms3 H3 ⟨rfl, fun _ _ => rfl⟩ ((g1.trans g2).trans g3) s3 (((a.sl.grow g1).grow g2).grow g3)) q.un⟩
/-! ### fields written -/
theorem ordF_lt : ∀ {d : List (Option D)} {f}, ordF d f = true → f < d.length
  | [], f, h => by cases f <;> cases h
  | _ :: _, 0, _ => by simp
  | some _ :: r, f + 1, h => by
    have := ordF_lt (d := r) (f := f) h
    simp; omega
  | none :: r, f + 1, h => by cases h
theorem RFs.allN {G : Gx} {ms H c} : ∀ {i d r}, RFs G ms H c i d r → tailF.allN d = true → r = []
  | _, _, _, .nil, _ => rfl
  | _, _, _, .no h, e => h.allN e
  | _, _, _, .so _ _, e => by cases e
theorem RFs.len {G : Gx} {ms H c} : ∀ {i d r}, RFs G ms H c i d r → r.length ≤ d.length
  | _, _, _, .nil => Nat.le_refl _
  | _, _, _, .no h => by have := h.len; simp; omega
  | _, _, _, .so _ h => by have := h.len; simp; omega
theorem RFs.put {G : Gx} {ms H c} : ∀ {i d r} {f : Nat}, RFs G ms H c i d r → (∀ j k, i ≤ j → j < i + d.length → i ≤ k → k < i + d.length → G.fnm c j = G.fnm c k → j = k) → ∀ {y v}, ordF d f = true → tailF d f = true → RD G ms H y v → RFs G ms H c i (d.set f (some y)) (putF (G.fnm c (i + f)) v r)
  | _, _, _, f, .nil, _, _, _, e, _, _ => by cases f <;> cases e
  | _, _, _, 0, .no h, _, _, _, _, e2, rd => by
    have := h.allN e2
    subst this
    exact .so rd h
  | _, _, _, f + 1, .no h, _, _, _, e, _, _ => by cases e
  | i, _, _, 0, .so h k, _, _, _, _, _, rd => by
    unfold putF
    rw [Nat.add_zero, if_pos rfl]
    exact .so rd k
  | i, _, _, f + 1, .so (fs := fs) h k, hn, _, _, e, e2, rd => by
    have hlt := ordF_lt (d := fs) (f := f) e
    unfold putF
    rw [if_neg fun z => by
      have := hn i (i + (f + 1)) (Nat.le_refl _) (by simp) (by omega) (by simp; omega) z
      omega]
    have := k.put (f := f) (fun j k h1 h2 h3 h4 h5 => hn j k (by omega) (by simp; omega) (by omega) (by simp; omega) h5) e e2 rd
    rw [show i + 1 + f = i + (f + 1) by omega] at this
    exact .so h this
theorem g_fld {c f : Nat} {o : Ex} {po : Expr} {name : Str} {pos : Pos} (fx : Fct p n) (ok : XOk p X sc n) (hx : name = p.nm.fd c f) (hc : p.nm.isC c = true) (hf : f < p.nm.nf c) (ho : PE X po (lE p.G B (tE p n o E))) : PG X (.Attribute po name pos) (lG p n B (.fld c f o) E) := by
  obtain ⟨c1, _, _, c4, c5, c6⟩ := fx.cls c hc
  refine ⟨fun pins s σ H v u Q I r q => ?_⟩
  obtain ⟨ms, S, σI, d, a, rd, q⟩ := q
  rw [assign_Attribute]
  refine wpAny_bind (wpAny_holding (thn (ho.run pins s σ H (fun x H1 => ∃ ad dx fs, x = .ref ad ∧ H1 ad = some (.ins (p.G.cad c) dx fs) ∧ fs.length < 1000 ∧ Q σ (upd H1 ad (.ins (p.G.cad c) dx (putF name v fs)))) I (lE_into (mE o E) a q fun d1 S1 v1 ms1 H1 g1 s1 r1 q => ?_)) fun ov s1 hq => ?_))
  · unfold setF at q
    split at q
    · rename_i nr
      split at q
      · rename_i c' fs e
        by_cases hcc : c' = c
        · subst hcc
          rw [decide_eq_true rfl] at q
          cases hor : ordF fs f with
          | false => rw [hor] at q; exact q.elim
          | true =>
            cases hta : tailF fs f with
            | false => rw [hor, hta] at q; exact q.elim
            | true =>
              by_cases hz : fs.length ≤ 100
              · rw [hor, hta, decide_eq_true hz] at q
                cases r1 with
                | r hn =>
                  rename_i ad
                  obtain ⟨a', e1, ro⟩ := s1.ob _ _ e
                  rw [hn] at e1; cases e1
                  cases ro with
                  | ins h1 h2 h3 =>
                    rename_i dx fr
                    refine ⟨_, _, _, rfl, h1, ?_, ?_⟩
                    · have := h2.len; omega
                    · rw [fx.nf] at h3
                      have gw := Grow.write s1 hn (.ins (p.G.cad c') dx (putF name v fr))
                      refine (show ∀ σ' ms' H', _ from q) σ ms1 _ ⟨rfl, fun _ _ => rfl⟩ (g1.trans gw) (s1.write hn _ (.ins upd_same ?_ (by rw [List.length_set, fx.nf]; exact h3))) ((a.sl.grow g1).grow gw)
                      have := h2.put (f := f) (fun j k _ hj _ hk hq => by
                        rw [fx.fnm] at hq
                        exact c6 j k (by omega) (by omega) hq) hor hta (rd.grow g1)
                      rw [Nat.zero_add, fx.fnm, ← hx] at this
                      exact this.grow gw
              · rw [hor, hta, decide_eq_false hz] at q
                exact q.elim
        · rw [decide_eq_false hcc] at q
          exact q.elim
      · exact q.elim
    · exact q.elim
  · obtain ⟨x, H1, I1, rx, ad, dx, fs, ex, h1, h2, q⟩ := hq
    subst ex
    obtain rfl : ov = Value.ref ad := rx
    refine wpAny_bind (wpAny_standAt (wpAny_bind (wpAny_holding (setattr_ok I1 h1 (by rw [ok.K]; exact c1) (by rw [ok.K, hx]; exact c5 f hf) h2 r fun s2 I2 => wpAny_release ⟨σ, _, I2, q⟩))))
end
end MP

set_option Elab.async false
set_option linter.all false
set_option maxRecDepth 100000
set_option maxHeartbeats 1000000
namespace MP
open PySem L2 PySem.Spec
open PyProof.Rows hiding St
/-! ### a comprehension's block -/
theorem relS_free {sc : Scope} : ∀ {names : List (Str × NameKind)} {x : Str}, names.lookup x = some .free →
    (names.map fun (n, k) => if (k == NameKind.free && sc.kind == .function && sc.names.lookup n == some .cell) then (n, NameKind.cell) else (n, k)).lookup x = some .cell ∨
    (names.map fun (n, k) => if (k == NameKind.free && sc.kind == .function && sc.names.lookup n == some .cell) then (n, NameKind.cell) else (n, k)).lookup x = some .free
  | [], _, h => by simp at h
  | (n, k₀) :: r, x, h => by
    have ih := @relS_free sc r x
    simp only [List.map_cons]
    cases hx : x == n with
    | true =>
      simp only [List.lookup_cons, hx] at h
      cases h
      split
      · left; simp only [List.lookup_cons, hx]
      · right; simp only [List.lookup_cons, hx]
    | false =>
      simp only [List.lookup_cons, hx] at h
      split
      · simp only [List.lookup_cons, hx]; exact ih h
      · simp only [List.lookup_cons, hx]; exact ih h
section
variable {G : Gx} {ms ms' : Md} {H H' : Hp}
theorem RDs.gw (g : Gw ms H ms' H') : ∀ {d v}, RDs G ms H d v → RDs G ms' H' d v
  | _, _, .nil => .nil
  | _, _, .cons h k => .cons (h.gw g) (k.gw g)
theorem RFs.gw (g : Gw ms H ms' H') {c} : ∀ {i d v}, RFs G ms H c i d v → RFs G ms' H' c i d v
  | _, _, _, .nil => .nil
  | _, _, _, .no h => .no (h.gw g)
  | _, _, _, .so h k => .so (h.gw g) (k.gw g)
theorem RO.gw (g : Gw ms H ms' H') {o a} (h : RO G ms H o a) (e : H' a = H a) : RO G ms' H' o a := by
  cases h with
  | lst h k => exact .lst (e.trans h) (k.gw g)
  | lsD h k => exact .lsD (e.trans h) (k.gw g)
  | dct h k => exact .dct (e.trans h) (k.gw g)
  | ins h k z => exact .ins (e.trans h) (k.gw g) z
/-- the same places, fewer (or other, unlaid) marks -/
theorem Gw.less (ha : ∀ n a, nth ms.a n = some a → nth ms'.a n = some a) (hb : ∀ x, ms'.bad x → ms.bad x ∨ H x = none) : Gw ms H ms' H := ⟨fun a o h n => ⟨h, fun q => (hb a q).elim n fun z => by rw [h] at z; cases z⟩, ha⟩
theorem Gw.upd {x : Addr} {o : HO} (hb : ms.bad x) : Gw ms H ms (upd H x o) := ⟨fun a u h n => ⟨by rw [upd_ne (fun z => n (by rw [z]; exact hb))]; exact h, n⟩, fun _ _ h => h⟩
theorem Sim.less {S} (s : Sim G ms H S) (ha : ms'.a = ms.a) (hf : ∀ x ∈ ms'.f, x ∈ ms.f) : Sim G ms' H S :=
  have g : Gw ms H ms' H := Gw.less (fun n a h => by rw [ha]; exact h) fun x h => .inl (h.elim (fun h => .inl (hf x h)) fun h => .inr (by rw [← ha]; exact h))
  ⟨by rw [ha]; exact s.len, by rw [ha]; exact s.nd, fun n o e => by
    obtain ⟨a, e1, r⟩ := s.ob n o e
    exact ⟨a, by rw [ha]; exact e1, r.gw g rfl⟩, fun x h => s.trk x (hf x h)⟩
theorem Sim.updF {S} (s : Sim G ms H S) {x : Addr} {o : HO} (hf : x ∈ ms.f) (hn : x ∉ ms.a) : Sim G ms (upd H x o) S :=
  ⟨s.len, s.nd, fun n ob e => by
    obtain ⟨a, e1, r⟩ := s.ob n ob e
    exact ⟨a, e1, r.gw (Gw.upd (.inl hf)) (upd_ne fun z => hn (by rw [← z]; exact mem_of_nth e1))⟩, fun y h => by
    obtain ⟨u, e⟩ := s.trk y h
    exact upd_stay y u e⟩
end
section
variable {p : Pg} {n : Nat} {X : Cx} {sc : Scope} {B : Bs} {E : XPost}
theorem XOk.blk {scope : Scope} {own : List (Str × Nat)} (ok : XOk p X sc n) (bk : BlkOk X.N X.env.scope scope own) (s : Shared) (H : Hp) (C : Addr) (cl : List (Str × Addr)) (fp : List Addr) : XOk p (X.blk s H scope (compEnvC scope cl C X.env) fp) scope n where
  P := ok.P
  w := ok.w
  K := ok.K
  mg := ok.mg
  base := ok.base
  nd := ok.nd
  calm := ok.calm
  room := ok.room
  gl := fun x h => lookup_relS_keep (sc := X.env.scope) (by decide) h
  lo := fun x h => by
    rcases h with h | h
    · have := lookup_relS_keep (sc := X.env.scope) (by decide) h
      exact ⟨.inl this, .inr this⟩
    · have := lookup_relS_keep (sc := X.env.scope) (by decide) h
      refine ⟨.inr this, .inl ?_⟩
      show (scope.names.lookup x == some .cell) = true
      rw [h]; rfl
  cf := fun x h => by
    rcases h with h | h
    · exact .inl (lookup_relS_keep (sc := X.env.scope) (by decide) h)
    · exact relS_free (sc := X.env.scope) h
  kd := bk.kind
theorem takes_no (Y : Cx) : Takes Y (wX p B0 FX) := fun u s' ⟨_, _, _, _, _, _, _, _, _, _, _, _, _, _, _, _, w⟩ => by
  obtain ⟨_, _, _, _, _, _, _, _, _, h⟩ := w
  exact h.elim
/-- slots forgotten -/
theorem wipe_in {σ : L2.St} {i : Nat} : ∀ {vs : List Nat}, i ∈ vs → i < σ.length → (wipe σ vs)[i]? = some none
  | [], h, _ => by cases h
  | v :: vs, h, hl => by
    unfold wipe
    by_cases hv : v = i
    · subst hv
      exact List.getElem?_set_self (by rw [wipe_length]; exact hl)
    · rw [List.getElem?_set_ne hv]
      exact wipe_in ((List.mem_cons.mp h).elim (fun z => absurd z.symm hv) id) hl
theorem wipe_out {σ : L2.St} {i : Nat} : ∀ {vs : List Nat}, i ∉ vs → (wipe σ vs)[i]? = σ[i]?
  | [], _ => rfl
  | v :: vs, h => by
    simp only [List.mem_cons, not_or] at h
    unfold wipe
    rw [List.getElem?_set_ne (fun z => h.1 z.symm)]
    exact wipe_out h.2
theorem wipe_eq {σ σ' : L2.St} {vs : List Nat} (hl : σ'.length = σ.length) (h : ∀ i, i ∉ vs → σ'[i]? = σ[i]?) : wipe σ' vs = wipe σ vs := by
  refine List.ext_getElem? fun i => ?_
  by_cases hi : i ∈ vs
  · by_cases hz : i < σ.length
    · rw [wipe_in hi hz, wipe_in hi (by omega)]
    · rw [List.getElem?_eq_none (by rw [wipe_length]; omega), List.getElem?_eq_none (by rw [wipe_length]; omega)]
  · rw [wipe_out hi, wipe_out hi, h i hi]
theorem wipe_wipe {σ : L2.St} {vs : List Nat} : wipe (wipe σ vs) vs = wipe σ vs := wipe_eq (wipe_length ..) fun i hi => wipe_out hi
theorem wipeS_length (σ : Sg) : ∀ vs : List Nat, (wipeS σ vs).length = σ.length
  | [] => rfl
  | v :: vs => by unfold wipeS; rw [List.length_set, wipeS_length σ vs]
theorem wipeS_some {σ : Sg} {i : Nat} {d : D} : ∀ {vs : List Nat}, nth (wipeS σ vs) i = some (some d) → nth σ i = some (some d) ∧ i ∉ vs
  | [], h => ⟨h, by simp⟩
  | v :: vs, h => by
    unfold wipeS at h
    by_cases hi : v = i
    · subst hi
      have hl := nth_lt h
      rw [List.length_set] at hl
      rw [nth_set_self hl] at h
      cases h
    · rw [nth_set_ne hi] at h
      obtain ⟨h1, h2⟩ := wipeS_some h
      exact ⟨h1, by simp only [List.mem_cons, not_or]; exact ⟨fun e => hi e.symm, h2⟩⟩
theorem Sl.wipe {G : Gx} {ms H σI σ} (h : Sl G ms H σI σ) (vs : List Nat) : Sl G ms H (wipeS σI vs) (L2.wipe σ vs) :=
  ⟨by rw [wipeS_length, wipe_length, h.1], fun i d e => by
    obtain ⟨e1, e2⟩ := wipeS_some e
    obtain ⟨v, q1, q2⟩ := h.2 i d e1
    exact ⟨v, by rw [wipe_out e2]; exact q1, q2⟩⟩
/-- a part of a list that is walked -/
theorem drop_get {α : Type} {l : List α} {i : Nat} {x : α} {r : List α} (h : l.drop i = x :: r) : l[i]? = some x ∧ l.drop (i + 1) = r := by
  constructor
  · have := List.getElem?_drop (xs := l) (i := i) (j := 0)
    rw [h] at this
    simpa using this.symm
  · have : l.drop (i + 1) = (l.drop i).drop 1 := by rw [List.drop_drop]
    rw [this, h]; rfl
/-- what holds of a comprehension's turns: base the state at its start, D its new list -/
structure CSt (G : Gx) (ms1 : Md) (H1 : Hp) (D : Addr) (acc : List T) (ms2 : Md) (H2 : Hp) (S2 : Sto) : Prop where
  gr : Grow ⟨D :: ms1.f, ms1.a⟩ H1 ms2 H2
  na : D ∉ ms2.a
  sm : Sim G ms2 H2 S2
  at_ : ∃ accV, H2 D = some (.lst accV) ∧ RTs G ms2 H2 acc accV
theorem CSt.f {G ms1 H1 D acc ms2 H2 S2} (c : CSt G ms1 H1 D acc ms2 H2 S2) : ms2.f = D :: ms1.f := c.gr.ff
theorem CSt.gw {G ms1 H1 D acc ms2 H2 S2} (c : CSt G ms1 H1 D acc ms2 H2 S2) (hD : H1 D = none) : Gw ms1 H1 ms2 H2 :=
  Gw.trans (ms' := ⟨D :: ms1.f, ms1.a⟩) (H' := H1) (Gw.less (fun _ _ h => h) fun x h => by
    rcases h with h | h
    · rcases List.mem_cons.mp h with h | h
      · exact .inr (by rw [h]; exact hD)
      · exact .inl (.inl h)
    · exact .inl (.inr h)) (Gw.of c.gr)
theorem CSt.start {G ms1 H1 D S1} (s : Sim G ms1 H1 S1) (hD : H1 D = none) : CSt G ms1 H1 D [] ⟨D :: ms1.f, ms1.a⟩ (upd H1 D (.lst [])) S1 where
  gr := Grow.laid0 hD _
  na := s.freshA hD
  sm := by
    have s2 := s.laid hD (.lst [])
    have gwS : Gw ms1 H1 ⟨D :: ms1.f, ms1.a⟩ (upd H1 D (.lst [])) := ⟨fun b u h q => ⟨by rw [upd_ne (ne_of_none h hD)]; exact h, fun z => by
      rcases z with z | z
      · rcases List.mem_cons.mp z with z | z
        · rw [z, hD] at h; cases h
        · exact q (.inl z)
      · exact q (.inr z)⟩, fun _ _ h => h⟩
    refine ⟨s2.len, s2.nd, fun n o e => ?_, fun a h => ?_⟩
    · obtain ⟨a, e1, r⟩ := s.ob n o e
      refine ⟨a, e1, r.gw gwS ?_⟩
      obtain ⟨u, eu⟩ := r.some
      exact upd_ne (ne_of_none eu hD)
    · rcases List.mem_cons.mp h with h | h
      · rw [h]; exact ⟨_, upd_same⟩
      · exact s2.trk a h
  at_ := ⟨[], upd_same, .nil⟩
theorem CSt.next {G ms1 H1 D acc ms2 H2 S2 ms3 H3 S3} (c : CSt G ms1 H1 D acc ms2 H2 S2) (g : Grow ms2 H2 ms3 H3) (s : Sim G ms3 H3 S3) : CSt G ms1 H1 D acc ms3 H3 S3 := by
  obtain ⟨accV, e, r⟩ := c.at_
  refine ⟨c.gr.trans g, fun q => ?_, s, accV, g.keep _ _ e c.na, r.grow g⟩
  obtain ⟨more, em, hm⟩ := g.pre
  rw [em] at q
  rcases List.mem_append.mp q with q | q
  · exact c.na q
  · have := hm _ q
    rw [e] at this; cases this
theorem CSt.app {G ms1 H1 D acc ms2 H2 S2} (c : CSt G ms1 H1 D acc ms2 H2 S2) (hD : H1 D = none) {y : T} {v : V} {accV : List V} (e : H2 D = some (.lst accV)) (r : RT G ms2 H2 y v) : CSt G ms1 H1 D (acc ++ [y]) ms2 (upd H2 D (.lst (accV ++ [v]))) S2 := by
  obtain ⟨accV', e', rs⟩ := c.at_
  rw [e] at e'; cases e'
  have hf : D ∈ ms2.f := by rw [c.f]; simp
  have gw : Gw ms2 H2 ms2 (upd H2 D (.lst (accV ++ [v]))) := Gw.upd (.inl hf)
  refine ⟨⟨c.gr.pre, c.gr.ff, fun a o h n => ?_, fun a o h => ?_⟩, c.na, c.sm.updF hf c.na, _, upd_same, (rs.gw gw).append (.cons (r.gw gw) .nil)⟩
  · rw [upd_ne (ne_of_none h hD)]
    exact c.gr.keep a o h n
  · obtain ⟨o', h'⟩ := c.gr.stay a o h
    exact upd_stay a o' h'
theorem CSt.done {G ms1 H1 D acc ms2 H2 S2} (c : CSt G ms1 H1 D acc ms2 H2 S2) (s1 : ¬ ms1.bad D) (hD : H1 D = none) {m : Bool} {ms H} {Q : VK} (g1 : Grow ms H ms1 H1) (q : outL m acc S2 (pst G ms H Q)) : Q (.ref D) H2 := by
  obtain ⟨accV, e, rs⟩ := c.at_
  have gr : Grow ms1 H1 ⟨ms1.f, ms2.a⟩ H2 := ⟨c.gr.pre, rfl, c.gr.keep, c.gr.stay⟩
  have sm : Sim G ⟨ms1.f, ms2.a⟩ H2 S2 := c.sm.less rfl fun x h => by rw [c.f]; exact List.mem_cons_of_mem _ h
  have lw : ∀ x, (⟨ms1.f, ms2.a⟩ : Md).bad x → ms2.bad x := fun x h => h.elim (fun h => .inl (by rw [c.f]; exact List.mem_cons_of_mem _ h)) .inr
  cases m with
  | false =>
    exact (show pst G ms H Q (.t (.lst acc)) S2 from q) (.ref D) _ _ (g1.trans gr) sm (.t (.lst e (fun h => h.elim (fun h => s1 (.inl h)) c.na) (rs.cong fun x h => .inl (lw x h))))
  | true =>
    have hl : (S2.length) = ms2.a.length := c.sm.len.symm
    have gr2 : Grow ms1 H1 ⟨ms1.f, ms2.a ++ [D]⟩ H2 := by
      obtain ⟨more, em, hm⟩ := c.gr.pre
      refine ⟨⟨more ++ [D], by show ms2.a ++ [D] = _; rw [em]; simp, fun x hx => ?_⟩, rfl, c.gr.keep, c.gr.stay⟩
      rcases List.mem_append.mp hx with hx | hx
      · exact hm x hx
      · have : x = D := by simpa using hx
        rw [this]; exact hD
    have lw2 : ∀ x, (⟨ms1.f, ms2.a ++ [D]⟩ : Md).bad x → ms2.bad x := fun x h => by
      rcases h with h | h
      · exact lw x (.inl h)
      · rcases List.mem_append.mp h with h | h
        · exact .inr h
        · have : x = D := by simpa using h
          rw [this]; exact .inl (by rw [c.f]; simp)
    have gw2 : Gw ms2 H2 ⟨ms1.f, ms2.a ++ [D]⟩ H2 := Gw.less (fun n a h => by show nth (ms2.a ++ [D]) n = _; rw [nth_app_lt (nth_lt h)]; exact h) fun x h => .inl (lw2 x h)
    refine (show pst G ms H Q (.r S2.length) (S2 ++ [.lst acc]) from q) (.ref D) _ _ (g1.trans gr2) ⟨by show (ms2.a ++ [D]).length = _; simp [hl], ?_, fun n o h => ?_, fun x h => sm.trk x h⟩ (.r (by show nth (ms2.a ++ [D]) _ = _; rw [hl]; exact nth_app_len))
    · show (ms2.a ++ [D]).Nodup
      rw [List.nodup_append]
      refine ⟨c.sm.nd, by simp, fun a ha b hb z => ?_⟩
      have : b = D := by simpa using hb
      exact c.na (by rw [← this, ← z]; exact ha)
    · by_cases hn : n < S2.length
      · rw [nth_app_lt hn] at h
        obtain ⟨a, e1, r⟩ := c.sm.ob n o h
        exact ⟨a, gw2.idx _ _ e1, r.gw gw2 rfl⟩
      · have hl2 : n < (S2 ++ [Ob.lst acc]).length := nth_lt h
        have : n = S2.length := by simp at hl2; omega
        subst this
        rw [nth_app_len] at h
        cases h
        exact ⟨D, by show nth (ms2.a ++ [D]) _ = _; rw [hl]; exact nth_app_len, .lst e (rs.gw gw2)⟩
def lTs (p : Pg) (n : Nat) (c : Exo) : TT := fun σ H Q => ∃ ms S σI, At p.G B0 ms H S σI σ ∧ wpT (cfp p n) p.ge p.up c FX σI S fun b S' => ∀ ms' H', Grow ms H ms' H' → Sim p.G ms' H' S' → Q b H'
/-- the data of a comprehension's end -/
theorem e_compV {m : Bool} {vs : List Nat} {tg : Tg} {it : It} {c : Exo} {e : Ex} {own : List (Str × Nat)} (hvs : own.map (·.2) = vs) (hsub : ∀ i ∈ tgVars tg, i ∈ vs) :
    ∀ σ H Q, lE p.G B (tE p n (.comp m vs tg it c e) E) σ H Q → tLc (lI p n B it E) (lG p n B0 tg FX) (lTs p n c) (lE p.G B0 (tE p n e FX)) (own.map (·.2)) σ H Q := fun σ H Q q => by
  rw [hvs]
  obtain ⟨ms, S, σI, a, q⟩ := q
  refine lI_into it a q fun l gd S1 J ms1 H1 g1 s1 its q => ?_
  obtain ⟨hlen, q⟩ := q
  intro Dd hD
  have a1 := a.next g1 s1
  -- the new list is none of data
  have nb : ¬ ms1.bad Dd := s1.fresh hD
  refine ⟨fun i k H2 => ∃ ms2 S2 acc, k = l.length - i ∧ i ≤ l.length ∧ CSt p.G ms1 H1 Dd acc ms2 H2 S2 ∧
    acc.length ≤ i ∧ compL gd (fun x S2 k => wpG (cfp p n) p.ge p.up tg FX x (wipeS σI vs) S2 fun σ3 S3 => wpT (cfp p n) p.ge p.up c FX σ3 S3 fun b S4 =>
        br b (wpE (cfp p n) p.ge p.up e FX σ3 S4 fun d S5 => match d with
          | .t y => k (some y) S5
          | _ => False) (k none S4)) (l.drop i) acc S2 (fun l' S' => outL m l' S' (pst p.G ms H Q)), ?_, ?_⟩
  · exact ⟨_, _, S1, [], rfl, Nat.zero_le _, CSt.start s1 hD, Nat.zero_le _, q⟩
  · rintro i k H2 ⟨ms2, S2, acc, rfl, hi, cs, hz, q⟩
    have gw := cs.gw hD
    cases hd : l.drop i with
    | nil =>
      rw [hd] at q
      unfold compL at q
      obtain ⟨go, q⟩ := grd_ok q
      have hge : l.length ≤ i := List.drop_eq_nil_iff.mp hd
      exact .inl ⟨its.stop ms2 H2 S2 i gw cs.sm go hge, cs.done nb hD g1 q⟩
    | cons x r =>
      rw [hd] at q
      unfold compL at q
      obtain ⟨go, q⟩ := grd_ok q
      obtain ⟨hx, hr⟩ := drop_get hd
      have hlt : i < l.length := (List.getElem?_eq_some_iff.mp hx).1
      refine .inr ⟨its.go ms2 H2 S2 i x gw cs.sm go hx, fun H3 => ∃ ms3 S3 acc', CSt p.G ms1 H1 Dd acc' ms3 H3 S3 ∧ acc'.length ≤ i + 1 ∧ compL gd (fun x S2 k => wpG (cfp p n) p.ge p.up tg FX x (wipeS σI vs) S2 fun σ3 S3 => wpT (cfp p n) p.ge p.up c FX σ3 S3 fun b S4 =>
        br b (wpE (cfp p n) p.ge p.up e FX σ3 S4 fun d S5 => match d with
          | .t y => k (some y) S5
          | _ => False) (k none S4)) (l.drop (i + 1)) acc' S3 (fun l' S' => outL m l' S' (pst p.G ms H Q)), fun H3 ⟨ms3, S3, acc', c1, c2, c3⟩ => ⟨l.length - (i + 1), by omega, ms3, S3, acc', rfl, hlt, c1, c2, c3⟩, fun v H3 y => ?_⟩
      obtain ⟨g3, s3, r3⟩ := its.yld ms2 H2 S2 i x v H3 gw cs.sm go hx y
      have c3 := cs.next g3 s3
      have sl3 : Sl p.G ms2 H3 (wipeS σI vs) (wipe σ vs) := (((a1.sl.gw gw).grow g3).wipe vs)
      have at3 : At p.G B0 ms2 H3 S2 (wipeS σI vs) (wipe σ vs) := ⟨fun _ _ e => (by cases e), fun _ e => (by cases e), s3, sl3⟩
      refine ⟨ms2, S2, wipeS σI vs, _, at3, .t r3, mG tg (fun σ4 S4 q σ' ms4 H4 hag g4 s4 sl4 => ?_) q⟩
      refine ⟨?_, ?_⟩
      · have : wipe σ' vs = wipe (wipe σ vs) vs := wipe_eq hag.1 fun i hi => hag.2 i fun z => hi (hsub i z)
        rw [this, wipe_wipe]
      · have c4 := c3.next g4 s4
        refine ⟨ms4, S4, σ4, ⟨fun _ _ e => (by cases e), fun _ e => (by cases e), s4, sl4⟩, wpT_mono (cfn_mono n) c (fun _ _ _ q => q) (fun b S5 q ms5 H5 g5 s5 => ?_) q⟩
        have c5 := c4.next g5 s5
        cases b with
        | false =>
          exact iteF ⟨ms5, S5, acc, c5, by omega, by rw [hr]; exact q⟩
        | true =>
          refine iteT ?_
          have at5 : At p.G B0 ms5 H5 S5 σ4 σ' := ⟨fun _ _ e => (by cases e), fun _ e => (by cases e), s5, sl4.grow g5⟩
          refine lE_into (mE e FX) at5 q fun d S6 v6 ms6 H6 g6 s6 r6 q => ?_
          have c6 := c5.next g6 s6
          split at q
          · rename_i y6
            cases r6 with
            | t r6 =>
              obtain ⟨accV, e6, rs6⟩ := c6.at_
              refine ⟨accV, e6, by rw [← rs6.length, sizeLine_eq]; omega, ms6, S6, acc ++ [y6], c6.app hD e6 r6, by simp; omega, by rw [hr]; exact q⟩
          · exact q.elim
end
end MP

set_option Elab.async false
set_option linter.all false
set_option maxRecDepth 100000
set_option maxHeartbeats 2000000
namespace MP
open PySem L2 PySem.Spec
open PyProof.Rows hiding St
/-! ### every expression -/
section
variable {nm : Nm} {N : List Str} {sc : Scope} {pe : Expr}
theorem mt_var {i} (h : mtE nm N (.var i) sc pe = true) : ∃ x pos, pe = .Name x pos := by
  cases pe <;> first | exact ⟨_, _, rfl⟩ | (simp [mtE] at h)
theorem mt_glob {i} (h : mtE nm N (.glob i) sc pe = true) : ∃ x pos, pe = .Name x pos := by
  cases pe <;> first | exact ⟨_, _, rfl⟩ | (simp [mtE] at h)
theorem mt_int {i} (h : mtE nm N (.int i) sc pe = true) : ∃ k pos, pe = .Constant (.int i) k pos := by
  cases pe with
  | Constant v k pos => cases v <;> simp [mtE] at h; subst h; exact ⟨_, _, rfl⟩
  | _ => simp [mtE] at h
theorem mt_str {i} (h : mtE nm N (.str i) sc pe = true) : ∃ k pos, pe = .Constant (.str i) k pos := by
  cases pe with
  | Constant v k pos => cases v <;> simp [mtE] at h; subst h; exact ⟨_, _, rfl⟩
  | _ => simp [mtE] at h
theorem mt_non (h : mtE nm N .non sc pe = true) : ∃ k pos, pe = .Constant .none k pos := by
  cases pe with
  | Constant v k pos => cases v <;> first | exact ⟨_, _, rfl⟩ | simp [mtE] at h
  | _ => simp [mtE] at h
theorem mt_bl {i} (h : mtE nm N (.bl i) sc pe = true) : ∃ k pos, pe = .Constant (.bool i) k pos := by
  cases pe with
  | Constant v k pos => cases v <;> simp [mtE] at h; subst h; exact ⟨_, _, rfl⟩
  | _ => simp [mtE] at h
theorem mt_bin {m o a b} (h : mtE nm N (.bin m o a b) sc pe = true) : ∃ pa pb pos, pe = .BinOp pa (opOf o) pb pos ∧ mtE nm N a sc pa = true ∧ mtE nm N b sc pb = true := by
  cases pe with
  | BinOp pa po pb pos =>
    rw [mtE, Bool.and_eq_true, Bool.and_eq_true, decide_eq_true_eq] at h
    obtain ⟨⟨rfl, h2⟩, h3⟩ := h
    exact ⟨_, _, _, rfl, h2, h3⟩
  | _ => simp [mtE] at h
theorem mt_neg {a} (h : mtE nm N (.neg a) sc pe = true) : ∃ pa pos, pe = .UnaryOp .USub pa pos ∧ mtE nm N a sc pa = true := by
  cases pe with
  | UnaryOp op pa pos =>
    cases op <;> first | exact ⟨_, _, rfl, by rw [mtE] at h; exact h⟩ | (simp [mtE] at h)
  | _ => simp [mtE] at h
theorem mt_not {a} (h : mtE nm N (.not a) sc pe = true) : ∃ pa pos, pe = .UnaryOp .Not pa pos ∧ mtE nm N a sc pa = true := by
  cases pe with
  | UnaryOp op pa pos =>
    cases op <;> first | exact ⟨_, _, rfl, by rw [mtE] at h; exact h⟩ | (simp [mtE] at h)
  | _ => simp [mtE] at h
theorem mt_bool {o es} (h : mtE nm N (.bool o es) sc pe = true) : ∃ ps pos, pe = .BoolOp (bop o) ps pos ∧ 2 ≤ ps.length ∧ mtL nm N es sc ps = true := by
  cases pe with
  | BoolOp po ps pos =>
    rw [mtE, Bool.and_eq_true, Bool.and_eq_true, decide_eq_true_eq, decide_eq_true_eq] at h
    obtain ⟨⟨rfl, h2⟩, h3⟩ := h
    exact ⟨_, _, rfl, h2, h3⟩
  | _ => simp [mtE] at h
theorem mt_cmp {a cs} (h : mtE nm N (.cmp a cs) sc pe = true) : ∃ pa ops ps pos, pe = .Compare pa ops ps pos ∧ mtE nm N a sc pa = true ∧ mtC nm N cs sc ops ps = true := by
  cases pe with
  | Compare pa ops ps pos =>
    rw [mtE, Bool.and_eq_true] at h
    exact ⟨_, _, _, _, rfl, h.1, h.2⟩
  | _ => simp [mtE] at h
theorem mt_tup {es} (h : mtE nm N (.tup es) sc pe = true) : ∃ ps k pos, pe = .Tuple ps k pos ∧ ps.length ≤ 1000 ∧ mtL nm N es sc ps = true := by
  cases pe with
  | Tuple ps k pos =>
    rw [mtE, Bool.and_eq_true, decide_eq_true_eq] at h
    exact ⟨_, _, _, rfl, h.1, h.2⟩
  | _ => simp [mtE] at h
theorem mt_lst {m es} (h : mtE nm N (.lst m es) sc pe = true) : ∃ ps pos, pe = .List ps pos ∧ ps.length ≤ 1000 ∧ mtL nm N es sc ps = true := by
  cases pe with
  | List ps pos =>
    rw [mtE, Bool.and_eq_true, decide_eq_true_eq] at h
    exact ⟨_, _, rfl, h.1, h.2⟩
  | _ => simp [mtE] at h
theorem mt_dct {m ks es} (h : mtE nm N (.dct m ks es) sc pe = true) : ∃ pos, pe = .Dict [] [] pos ∧ ks = [] ∧ es = .nil := by
  cases pe with
  | Dict pks pvs pos =>
    rw [mtE, Bool.and_eq_true, Bool.and_eq_true, Bool.and_eq_true, decide_eq_true_eq, decide_eq_true_eq, decide_eq_true_eq] at h
    obtain ⟨⟨⟨rfl, h2⟩, h3⟩, h4⟩ := h
    have e2 := List.length_eq_zero_iff.mp h2
    have e3 := List.length_eq_zero_iff.mp h3
    subst e2 e3
    cases es with
    | nil => exact ⟨_, rfl, rfl, rfl⟩
    | cons _ _ => cases h4
  | _ => simp [mtE] at h
theorem mt_ix {a b} (h : mtE nm N (.ix a b) sc pe = true) : ∃ pa pb pos, pe = .Subscript pa pb pos ∧ plainE pb = true ∧ mtE nm N a sc pa = true ∧ mtE nm N b sc pb = true := by
  cases pe with
  | Subscript pa pb pos =>
    rw [mtE, Bool.and_eq_true, Bool.and_eq_true] at h
    exact ⟨_, _, _, rfl, h.1.1, h.1.2, h.2⟩
  | _ => simp [mtE] at h
theorem mt_sl {m a lo hi} (h : mtE nm N (.sl m a lo hi) sc pe = true) : ∃ pa pl ph p2 pos, pe = .Subscript pa (.Slice pl ph none p2) pos ∧ mtE nm N a sc pa = true ∧ mtO nm N lo sc pl = true ∧ mtO nm N hi sc ph = true := by
  cases pe with
  | Subscript pa pb pos =>
    cases pb with
    | Slice pl ph pst p2 =>
      cases pst with
      | none =>
        rw [mtE, Bool.and_eq_true, Bool.and_eq_true] at h
        exact ⟨_, _, _, _, _, rfl, h.1.1, h.1.2, h.2⟩
      | some _ => simp [mtE] at h
    | _ => simp [mtE] at h
  | _ => simp [mtE] at h
theorem mt_rev {a} (h : mtE nm N (.rev a) sc pe = true) : ∃ pa k p1 p2 p3 pos, pe = .Subscript pa (.Slice none none (some (.UnaryOp .USub (.Constant (.int 1) k p1) p2)) p3) pos ∧ mtE nm N a sc pa = true := by
  cases pe with
  | Subscript pa pb pos =>
    cases pb with
    | Slice pl ph pst p2 =>
      cases pl with
      | some _ => simp [mtE] at h
      | none =>
        cases ph with
        | some _ => simp [mtE] at h
        | none =>
          cases pst with
          | none => simp [mtE] at h
          | some e =>
            cases e with
            | UnaryOp op c p3 =>
              cases op with
              | USub =>
                cases c with
                | Constant v k p1 =>
                  cases v with
                  | int i =>
                    by_cases hi : i = 1
                    · subst hi
                      rw [mtE] at h
                      exact ⟨_, _, _, _, _, _, rfl, h⟩
                    · simp [mtE, hi] at h
                  | _ => simp [mtE] at h
                | _ => simp [mtE] at h
              | _ => simp [mtE] at h
            | _ => simp [mtE] at h
    | _ => simp [mtE] at h
  | _ => simp [mtE] at h
theorem mt_call {f es} (h : mtE nm N (.call f es) sc pe = true) : ∃ x p1 ps pos, pe = .Call (.Name x p1) ps [] pos ∧ x = nm.fn f ∧ nm.isF f = true ∧ glB sc x = true ∧ ps.length ≠ 0 ∧ mtL nm N es sc ps = true := by
  cases pe with
  | Call f ps kw pos =>
    cases f with
    | Name x p1 =>
      cases kw with
      | nil =>
        rw [mtE] at h
        simp only [Bool.and_eq_true, decide_eq_true_eq] at h
        exact ⟨_, _, _, _, rfl, h.1.1.1.1, h.1.1.1.2, h.1.1.2, h.1.2, h.2⟩
      | cons _ _ => simp [mtE] at h
    | _ => simp [mtE] at h
  | _ => simp [mtE] at h
theorem mt_calv {i es} (h : mtE nm N (.calv i es) sc pe = true) : ∃ x p1 ps pos, pe = .Call (.Name x p1) ps [] pos ∧ N[i]? = some x ∧ visB sc x = true ∧ ps.length ≠ 0 ∧ mtL nm N es sc ps = true := by
  cases pe with
  | Call f ps kw pos =>
    cases f with
    | Name x p1 =>
      cases kw with
      | nil =>
        rw [mtE] at h
        simp only [Bool.and_eq_true, decide_eq_true_eq] at h
        exact ⟨_, _, _, _, rfl, h.1.1.1, h.1.1.2, h.1.2, h.2⟩
      | cons _ _ => simp [mtE] at h
    | _ => simp [mtE] at h
  | _ => simp [mtE] at h
theorem mt_bi {m b es} (h : mtE nm N (.bi m b es) sc pe = true) : ∃ x p1 ps pos, pe = .Call (.Name x p1) ps [] pos ∧ x = biNm b ∧ glB sc x = true ∧ ps.length = biAr b ∧ mtL nm N es sc ps = true := by
  cases pe with
  | Call f ps kw pos =>
    cases f with
    | Name x p1 =>
      cases kw with
      | nil =>
        rw [mtE] at h
        simp only [Bool.and_eq_true, decide_eq_true_eq] at h
        exact ⟨_, _, _, _, rfl, h.1.1.1, h.1.1.2, h.1.2, h.2⟩
      | cons _ _ => simp [mtE] at h
    | _ => simp [mtE] at h
  | _ => simp [mtE] at h
theorem mt_mk {c f nf es} (h : mtE nm N (.mk c f nf es) sc pe = true) : ∃ x p1 ps pos, pe = .Call (.Name x p1) ps [] pos ∧ x = nm.cl c ∧ nm.isC c = true ∧ nm.isM f = true ∧ nm.ini c = f ∧ nm.nf c = nf ∧ glB sc x = true ∧ ps.length ≠ 0 ∧ mtL nm N es sc ps = true := by
  cases pe with
  | Call f ps kw pos =>
    cases f with
    | Name x p1 =>
      cases kw with
      | nil =>
        rw [mtE] at h
        simp only [Bool.and_eq_true, decide_eq_true_eq] at h
        exact ⟨_, _, _, _, rfl, h.1.1.1.1.1.1.1, h.1.1.1.1.1.1.2, h.1.1.1.1.1.2, h.1.1.1.1.2, h.1.1.1.2, h.1.1.2, h.1.2, h.2⟩
      | cons _ _ => simp [mtE] at h
    | _ => simp [mtE] at h
  | _ => simp [mtE] at h
theorem mt_met {b o es} (h : mtE nm N (.met b o es) sc pe = true) : ∃ po name apos ps pos, pe = .Call (.Attribute po name apos) ps [] pos ∧ name = meNm b ∧ noCall0 po = true ∧ (apos.endLine == pos.line) = true ∧ ps.length < 20 ∧ mtE nm N o sc po = true ∧ mtL nm N es sc ps = true := by
  cases pe with
  | Call f ps kw pos =>
    cases f with
    | Attribute po name apos =>
      cases kw with
      | nil =>
        rw [mtE] at h
        simp only [Bool.and_eq_true, decide_eq_true_eq] at h
        exact ⟨_, _, _, _, _, rfl, h.1.1.1.1.1, h.1.1.1.1.2, h.1.1.1.2, h.1.1.2, h.1.2, h.2⟩
      | cons _ _ => simp [mtE] at h
    | _ => simp [mtE] at h
  | _ => simp [mtE] at h
theorem mt_um {c f o es} (h : mtE nm N (.um c f o es) sc pe = true) : ∃ po name apos ps pos, pe = .Call (.Attribute po name apos) ps [] pos ∧ name = nm.fn f ∧ nm.isM f = true ∧ nm.isC c = true ∧ nm.mc f = c ∧ ps.length < 20 ∧ noCall0 po = true ∧ (apos.endLine == pos.line) = true ∧ mtE nm N o sc po = true ∧ mtL nm N es sc ps = true := by
  cases pe with
  | Call g ps kw pos =>
    cases g with
    | Attribute po name apos =>
      cases kw with
      | nil =>
        rw [mtE] at h
        simp only [Bool.and_eq_true, decide_eq_true_eq] at h
        exact ⟨_, _, _, _, _, rfl, h.1.1.1.1.1.1.1.1, h.1.1.1.1.1.1.1.2, h.1.1.1.1.1.1.2, h.1.1.1.1.1.2, h.1.1.1.1.2, h.1.1.1.2, h.1.1.2, h.1.2, h.2⟩
      | cons _ _ => simp [mtE] at h
    | _ => simp [mtE] at h
  | _ => simp [mtE] at h
theorem mt_fld {c f o} (h : mtE nm N (.fld c f o) sc pe = true) : ∃ po name pos, pe = .Attribute po name pos ∧ name = nm.fd c f ∧ nm.isC c = true ∧ f < nm.nf c ∧ noCall0 po = true ∧ mtE nm N o sc po = true := by
  cases pe with
  | Attribute po name pos =>
    rw [mtE] at h
    simp only [Bool.and_eq_true, decide_eq_true_eq] at h
    exact ⟨_, _, _, rfl, h.1.1.1.1, h.1.1.1.2, h.1.1.2, h.1.2, h.2⟩
  | _ => simp [mtE] at h
theorem mt_isi {a ts} (h : mtE nm N (.isi a ts) sc pe = true) : ∃ t x p1 pa pt pos, ts = [t] ∧ pe = .Call (.Name x p1) [pa, pt] [] pos ∧ x = ("isinstance" : Str) ∧ glB sc x = true ∧ plainE pa = true ∧ mtE nm N a sc pa = true ∧ tyB nm sc t pt = true := by
  rcases ts with _ | ⟨t, _ | ⟨_, _⟩⟩
  · unfold mtE at h
    cases h
  · cases pe with
    | Call f ps kw pos =>
      cases f with
      | Name x p1 =>
        cases kw with
        | nil =>
          rcases ps with _ | ⟨pa, _ | ⟨pt, _ | ⟨_, _⟩⟩⟩
          · simp [mtE] at h
          · simp [mtE] at h
          · rw [mtE] at h
            simp only [Bool.and_eq_true, decide_eq_true_eq] at h
            exact ⟨_, _, _, _, _, _, rfl, rfl, h.1.1.1.1, h.1.1.1.2, h.1.1.2, h.1.2, h.2⟩
          · simp [mtE] at h
        | cons _ _ => simp [mtE] at h
      | _ => simp [mtE] at h
    | _ => simp [mtE] at h
  · unfold mtE at h
    cases h
theorem mt_listI {m it} (h : mtE nm N (.listI m it) sc pe = true) : False := by
  unfold mtE at h
  cases h
theorem mt_comp {m vs tg it c e} (h : mtE nm N (.comp m vs tg it c e) sc pe = true) : ∃ pe' ptg pit pifs sc' pos, pe = .ListComp pe' [⟨ptg, pit, pifs, 0⟩] sc' pos ∧ blkC N sc sc' (vs.map fun i => (N.getD i (Str.mk #[]), i)) = true ∧ subsetB (tgVars tg) vs = true ∧ plainE pit = true ∧
    mtI nm N it sc pit (isTup ptg) = true ∧ mtG nm N tg sc' ptg = true ∧ mtT nm N c sc' pifs = true ∧ mtE nm N e sc' pe' = true := by
  cases pe with
  | ListComp pe' gs sc' pos =>
    rcases gs with _ | ⟨⟨ptg, pit, pifs, asy⟩, _ | ⟨_, _⟩⟩
    · simp [mtE] at h
    · rw [mtE] at h
      simp only [Bool.and_eq_true, decide_eq_true_eq] at h
      obtain ⟨⟨⟨⟨⟨⟨⟨h1, h2⟩, h3⟩, h4⟩, h5⟩, h6⟩, h7⟩, h8⟩ := h
      subst h1
      exact ⟨_, _, _, _, _, _, rfl, h2, h3, h4, h5, h6, h7, h8⟩
    · simp [mtE] at h
  | _ => simp [mtE] at h
theorem mt_range {es t} (h : mtI nm N (.range es) sc pe t = true) : ∃ x p1 ps pos, pe = .Call (.Name x p1) ps [] pos ∧ x = ("range" : Str) ∧ glB sc x = true ∧ ps.length ≤ 3 ∧ ps.length ≠ 0 ∧ mtL nm N es sc ps = true := by
  cases pe with
  | Call f ps kw pos =>
    cases f with
    | Name x p1 =>
      cases kw with
      | nil =>
        rw [mtI] at h
        simp only [Bool.and_eq_true, decide_eq_true_eq] at h
        exact ⟨_, _, _, _, rfl, h.1.1.1.1, h.1.1.1.2, h.1.1.2, h.1.2, h.2⟩
      | cons _ _ => simp [mtI] at h
    | _ => simp [mtI] at h
  | _ => simp [mtI] at h
theorem mt_zip {a b t} (h : mtI nm N (.zip a b) sc pe t = true) : ∃ x p1 pa pb pos, t = true ∧ pe = .Call (.Name x p1) [pa, pb] [] pos ∧ x = ("zip" : Str) ∧ glB sc x = true ∧ plainE pa = true ∧ plainE pb = true ∧ mtE nm N a sc pa = true ∧ mtE nm N b sc pb = true := by
  cases pe with
  | Call f ps kw pos =>
    cases f with
    | Name x p1 =>
      rcases ps with _ | ⟨pa, _ | ⟨pb, _ | ⟨_, _⟩⟩⟩ <;> cases kw with
      | nil =>
        first
          | (simp [mtI] at h; done)
          | (rw [mtI] at h
             simp only [Bool.and_eq_true, decide_eq_true_eq] at h
             exact ⟨_, _, _, _, _, h.1.1.1.1.1.1, rfl, h.1.1.1.1.1.2, h.1.1.1.1.2, h.1.1.1.2, h.1.1.2, h.1.2, h.2⟩)
      | cons _ _ => simp [mtI] at h
    | _ => simp [mtI] at h
  | _ => simp [mtI] at h
theorem mt_enum {a t} (h : mtI nm N (.enum a) sc pe t = true) : ∃ x p1 pa pos, t = true ∧ pe = .Call (.Name x p1) [pa] [] pos ∧ x = ("enumerate" : Str) ∧ glB sc x = true ∧ plainE pa = true ∧ mtE nm N a sc pa = true := by
  cases pe with
  | Call f ps kw pos =>
    cases f with
    | Name x p1 =>
      rcases ps with _ | ⟨pa, _ | ⟨pb, r⟩⟩ <;> cases kw with
      | nil =>
        first
          | (simp [mtI] at h; done)
          | (rw [mtI] at h
             simp only [Bool.and_eq_true, decide_eq_true_eq] at h
             exact ⟨_, _, _, _, h.1.1.1.1, rfl, h.1.1.1.2, h.1.1.2, h.1.2, h.2⟩)
      | cons _ _ => simp [mtI] at h
    | _ => simp [mtI] at h
  | _ => simp [mtI] at h
theorem isTup_of {e : Expr} (h : isTup e = true) : ∃ ps k pos, e = .Tuple ps k pos := by
  cases e <;> first | exact ⟨_, _, _, rfl⟩ | cases h
theorem mt_gvar {i} (h : mtG nm N (.var i) sc pe = true) : ∃ x pos, pe = .Name x pos ∧ N[i]? = some x ∧ locB sc x = true := by
  cases pe with
  | Name x pos =>
    rw [mtG, Bool.and_eq_true, decide_eq_true_eq] at h
    exact ⟨_, _, rfl, h.1, h.2⟩
  | _ => simp [mtG] at h
theorem mt_gtup {ts} (h : mtG nm N (.tup ts) sc pe = true) : ∃ ps k pos, pe = .Tuple ps k pos ∧ mtGs nm N ts sc ps = true := by
  cases pe with
  | Tuple ps k pos =>
    rw [mtG] at h
    exact ⟨_, _, _, rfl, h⟩
  | _ => simp [mtG] at h
theorem mt_gix {o i} (h : mtG nm N (.ix o i) sc pe = true) : ∃ po pi_ pos, pe = .Subscript po pi_ pos ∧ plainE pi_ = true ∧ mtE nm N o sc po = true ∧ mtE nm N i sc pi_ = true := by
  cases pe with
  | Subscript po pi_ pos =>
    rw [mtG, Bool.and_eq_true, Bool.and_eq_true] at h
    exact ⟨_, _, _, rfl, h.1.1, h.1.2, h.2⟩
  | _ => simp [mtG] at h
theorem mt_gfld {c f o} (h : mtG nm N (.fld c f o) sc pe = true) : ∃ po name pos, pe = .Attribute po name pos ∧ name = nm.fd c f ∧ nm.isC c = true ∧ f < nm.nf c ∧ mtE nm N o sc po = true := by
  cases pe with
  | Attribute po name pos =>
    rw [mtG] at h
    simp only [Bool.and_eq_true, decide_eq_true_eq] at h
    exact ⟨_, _, _, rfl, h.1.1.1, h.1.1.2, h.1.2, h.2⟩
  | _ => simp [mtG] at h
theorem mtGs_each {env : Env} : ∀ {ts : Tgs} {ps : List Expr}, mtGs nm N ts sc ps = true → (assignEach ps env).length = tgsLen ts ∧ (assignEach ps env).findIdx? (·.1) = none
  | .nil, [], _ => ⟨rfl, rfl⟩
  | .cons t r, q :: ps, h => by
    rw [mtGs, Bool.and_eq_true, Bool.and_eq_true] at h
    obtain ⟨i1, i2⟩ := mtGs_each (env := env) h.2
    rw [aE_plain h.1.1]
    refine ⟨by simp [tgsLen, i1], ?_⟩
    rw [List.findIdx?_cons, i2]; rfl
  | .nil, _ :: _, h => by cases h
  | .cons _ _, [], h => by cases h
end
section
variable {p : Pg} {n : Nat}
theorem copE {X : Cx} {sc : Scope} {B : Bs} {E : XPost} {e : Ex} {pe : Expr} (ok : XOk p X sc n) (h : PE X pe (lE p.G B (tE p n e E))) (hv : valT pe = true) : PE X pe (lE p.G B (tE p n e E)) ∧ PT X pe (lT p.G B (tE p n e E)) := ⟨h, pt_of (mE e E) ok h hv⟩
def EOk (p : Pg) (n : Nat) (e : Ex) : Prop := ∀ (X : Cx) (sc : Scope) (B : Bs) (E : XPost) (pe : Expr), XOk p X sc n → Takes X (wX p B E) → mtE p.nm X.N e sc pe = true → PE X pe (lE p.G B (tE p n e E)) ∧ PT X pe (lT p.G B (tE p n e E))
def LOk (p : Pg) (n : Nat) (es : Exs) : Prop := ∀ (X : Cx) (sc : Scope) (B : Bs) (E : XPost) (ps : List Expr), XOk p X sc n → Takes X (wX p B E) → mtL p.nm X.N es sc ps = true → PA X ps (lA p.G B (tL p n es E))
def BOk (p : Pg) (n : Nat) (es : Exs) : Prop := ∀ (X : Cx) (sc : Scope) (B : Bs) (E : XPost) (o : Bool) (ps : List Expr), XOk p X sc n → Takes X (wX p B E) → mtL p.nm X.N es sc ps = true → ps ≠ [] → PBo p n X B E o es ps
def COk (p : Pg) (n : Nat) (cs : Cms) : Prop := ∀ (X : Cx) (sc : Scope) (B : Bs) (E : XPost) (ops : List CmpOp) (ps : List Expr), XOk p X sc n → Takes X (wX p B E) → mtC p.nm X.N cs sc ops ps = true → PCh p n X B E cs ops ps
def OOk (p : Pg) (n : Nat) (o : Exo) : Prop := ∀ (X : Cx) (sc : Scope) (B : Bs) (E : XPost) (po : Option Expr), XOk p X sc n → Takes X (wX p B E) → mtO p.nm X.N o sc po = true → PO X po (lO p n B o E)
def TsOk (p : Pg) (n : Nat) (c : Exo) : Prop := ∀ (X : Cx) (sc : Scope) (ps : List Expr), XOk p X sc n → mtT p.nm X.N c sc ps = true → PTs X ps (lTs p n c)
def IOk (p : Pg) (n : Nat) (it : It) : Prop := ∀ (X : Cx) (sc : Scope) (B : Bs) (E : XPost) (tg pe : Expr), XOk p X sc n → Takes X (wX p B E) → mtI p.nm X.N it sc pe (isTup tg) = true → PI X tg pe (lI p n B it E)
def GOk (p : Pg) (n : Nat) (t : Tg) : Prop := ∀ (X : Cx) (sc : Scope) (B : Bs) (E : XPost) (pe : Expr), XOk p X sc n → Takes X (wX p B E) → B.sg = none → mtG p.nm X.N t sc pe = true → PG X pe (lG p n B t E)
def GsOk (p : Pg) (n : Nat) (t : Tgs) : Prop := ∀ (X : Cx) (sc : Scope) (B : Bs) (E : XPost) (ps : List Expr), XOk p X sc n → Takes X (wX p B E) → B.sg = none → mtGs p.nm X.N t sc ps = true → PGs X ps (lGs p n B t E)
theorem len_of_ar {b : Bi} {k : Nat} (h : k = biAr b) : k ≠ 0 := by cases b <;> simp [biAr] at h <;> omega
theorem own_map {N : List Str} : ∀ {vs : List Nat}, (vs.map fun i => (N.getD i (Str.mk #[]), i)).map (·.2) = vs
  | [] => rfl
  | v :: r => by
    rw [List.map_cons, List.map_cons, own_map]
theorem blk_env {N : List Str} {sc sc' : Scope} {own : List (Str × Nat)} {X : Cx} {p : Pg} {n : Nat} (ok : XOk p X sc n) (h : BlkOk N sc sc' own) : BlkOk N X.env.scope sc' own := ⟨h.kind, h.uniq, h.ix, fun y hy e => ok.cf _ (h.free y hy e), h.own⟩
mutual
theorem eOk (fx : Fct p n) : ∀ e : Ex, EOk p n e
  | .var i => fun X sc B E pe ok tk h => by
    obtain ⟨x, pos, rfl⟩ := mt_var h
    exact copE ok (e_var ok h) rfl
  | .glob g => fun X sc B E pe ok tk h => by
    obtain ⟨x, pos, rfl⟩ := mt_glob h
    exact copE ok (e_glob fx ok h) rfl
  | .int i => fun X sc B E pe ok tk h => by
    obtain ⟨k, pos, rfl⟩ := mt_int h
    exact copE ok (PE.weak pe_int (lE_t (x := .int i) (fun σ S Q q => q) fun _ _ => .int i)) rfl
  | .str i => fun X sc B E pe ok tk h => by
    obtain ⟨k, pos, rfl⟩ := mt_str h
    exact copE ok (PE.weak pe_str (lE_t (x := .str i) (fun σ S Q q => q) fun _ _ => .str i)) rfl
  | .non => fun X sc B E pe ok tk h => by
    obtain ⟨k, pos, rfl⟩ := mt_non h
    exact copE ok (PE.weak pe_non (lE_t (x := .non) (fun σ S Q q => q) fun _ _ => .non)) rfl
  | .bl i => fun X sc B E pe ok tk h => by
    obtain ⟨k, pos, rfl⟩ := mt_bl h
    exact copE ok (PE.weak pe_bl (lE_t (x := .bl i) (fun σ S Q q => q) fun _ _ => .bl i)) rfl
  | .bin m o a b => fun X sc B E pe ok tk h => by
    obtain ⟨pa, pb, pos, rfl, h1, h2⟩ := mt_bin h
    exact copE ok (PE.weak (pe_op (bin_ok ok.K m o) (eOk fx a X sc B E pa ok tk h1).1 (eOk fx b X sc B E pb ok tk h2).1) (lE_bin (fun x y H Q q => q) fun d e S Q Q' h q => binD_mono h q)) rfl
  | .neg a => fun X sc B E pe ok tk h => by
    obtain ⟨pa, pos, rfl, h1⟩ := mt_neg h
    exact copE ok (PE.weak (pe_un (neg_ok (p := p)) (eOk fx a X sc B E pa ok tk h1).1) (lE_un (p := p) (n := n) (B := B) (E := E) (a := a) (f := negD) (r := fun v H Q => ∃ ms S d, Sim p.G ms H S ∧ RD p.G ms H d v ∧ negD d S (pst p.G ms H Q)) (fun ms H S d v Q s r q => ⟨ms, S, d, s, r, q⟩) fun d S Q Q' h q => negD_mono h q)) rfl
  | .not a => fun X sc B E pe ok tk h => by
    obtain ⟨pa, pos, rfl, h1⟩ := mt_not h
    have q := eOk fx a X sc B E pa ok tk h1
    exact e_not ok q.1 q.2
  | .bool o es => fun X sc B E pe ok tk h => by
    obtain ⟨ps, pos, rfl, h1, h2⟩ := mt_bool h
    have q := bOk fx es X sc B E o ps ok tk h2 (by intro z; subst z; simp at h1)
    exact ⟨q.val pos, (q.tst pos).pt⟩
  | .cmp a cs => fun X sc B E pe ok tk h => by
    obtain ⟨pa, ops, ps, pos, rfl, h1, h2⟩ := mt_cmp h
    exact e_cmp ok (eOk fx a X sc B E pa ok tk h1).1 (cOk fx cs X sc B E ops ps ok tk h2)
  | .tup es => fun X sc B E pe ok tk h => by
    obtain ⟨ps, k, pos, rfl, h1, h2⟩ := mt_tup h
    exact copE ok (e_tup h1 h2 (lOk fx es X sc B E ps ok tk h2)) rfl
  | .lst m es => fun X sc B E pe ok tk h => by
    obtain ⟨ps, pos, rfl, h1, h2⟩ := mt_lst h
    exact copE ok (e_lst h1 h2 (lOk fx es X sc B E ps ok tk h2)) rfl
  | .dct m ks es => fun X sc B E pe ok tk h => by
    obtain ⟨pos, rfl, rfl, rfl⟩ := mt_dct h
    exact copE ok e_dct rfl
  | .ix a b => fun X sc B E pe ok tk h => by
    obtain ⟨pa, pb, pos, rfl, hp, h1, h2⟩ := mt_ix h
    exact copE ok (PE.weak (pe_ix (ix_ok ok.K (hu1 ok)) (eOk fx a X sc B E pa ok tk h1).1 (eOk fx b X sc B E pb ok tk h2).1 (ix_plain hp)) (lE_bin (fun x y H Q q => q) fun d e S Q Q' h q => ixD_mono h q)) rfl
  | .sl m a lo hi => fun X sc B E pe ok tk h => by
    obtain ⟨pa, pl, ph, p2, pos, rfl, h1, h2, h3⟩ := mt_sl h
    exact copE ok (e_sl ok (eOk fx a X sc B E pa ok tk h1).1 (oOk fx lo X sc B E pl ok tk h2) (oOk fx hi X sc B E ph ok tk h3)) rfl
  | .rev a => fun X sc B E pe ok tk h => by
    obtain ⟨pa, k, p1, p2, p3, pos, rfl, h1⟩ := mt_rev h
    exact copE ok (e_rev ok (eOk fx a X sc B E pa ok tk h1).1) rfl
  | .call f es => fun X sc B E pe ok tk h => by
    obtain ⟨x, p1, ps, pos, rfl, h1, h2, h3, h4, h5⟩ := mt_call h
    exact copE ok (e_call fx ok tk h1 h2 h3 h4 h5 (lOk fx es X sc B E ps ok tk h5)) rfl
  | .calv i es => fun X sc B E pe ok tk h => by
    obtain ⟨x, p1, ps, pos, rfl, h1, h2, h3, h4⟩ := mt_calv h
    exact copE ok (e_calv fx ok tk h1 h2 h3 h4 (lOk fx es X sc B E ps ok tk h4)) rfl
  | .bi m b es => fun X sc B E pe ok tk h => by
    obtain ⟨x, p1, ps, pos, rfl, h1, h2, h3, h4⟩ := mt_bi h
    exact copE ok (e_bi fx ok h1 h2 (len_of_ar h3) h4 (lOk fx es X sc B E ps ok tk h4)) rfl
  | .listI m it => fun X sc B E pe ok tk h => (mt_listI h).elim
  | .met b o es => fun X sc B E pe ok tk h => by
    obtain ⟨po, name, apos, ps, pos, rfl, h1, h2, h3, h4, h5, h6⟩ := mt_met h
    exact copE ok (e_met ok h1 h2 h3 h4 h6 (eOk fx o X sc B E po ok tk h5).1 (lOk fx es X sc B E ps ok tk h6)) rfl
  | .um c f o es => fun X sc B E pe ok tk h => by
    obtain ⟨po, name, apos, ps, pos, rfl, h1, h2, h3, h4, h5, h6, h7, h8, h9⟩ := mt_um h
    exact copE ok (e_um fx ok tk h1 h2 h3 h4 h5 h6 h7 h9 (eOk fx o X sc B E po ok tk h8).1 (lOk fx es X sc B E ps ok tk h9)) rfl
  | .mk c f nf es => fun X sc B E pe ok tk h => by
    obtain ⟨x, p1, ps, pos, rfl, h1, h2, h3, h4, h5, h6, h7, h8⟩ := mt_mk h
    exact copE ok (e_mk fx ok tk h1 h2 h3 h4 h5 h6 h7 h8 (lOk fx es X sc B E ps ok tk h8)) rfl
  | .fld c f o => fun X sc B E pe ok tk h => by
    obtain ⟨po, name, pos, rfl, h1, h2, h3, h4, h5⟩ := mt_fld h
    exact copE ok (e_fld fx ok h1 h2 h3 h4 (eOk fx o X sc B E po ok tk h5).1) rfl
  | .isi a ts => fun X sc B E pe ok tk h => by
    obtain ⟨t, x, p1, pa, pt, pos, rfl, rfl, h1, h2, h3, h4, h5⟩ := mt_isi h
    exact copE ok (e_isi fx ok h1 h2 h3 h5 (eOk fx a X sc B E pa ok tk h4).1) rfl
  | .comp m vs tg it c e => fun X sc B E pe ok tk h => by
    obtain ⟨pe', ptg, pit, pifs, sc', pos, rfl, h1, h2, h3, h4, h5, h6, h7⟩ := mt_comp h
    have bk := blk_env ok (blkOk_by h1)
    refine copE ok (PE.weak (pe_lc ok.calm ok.nd (iOk fx it X sc B E ptg pit ok tk h4) bk (fun s H C cl fp => gOk' fx tg _ sc' B0 FX ptg (ok.blk bk s H C cl fp) (takes_no _) rfl h5) (fun s H C cl fp => tsOk fx c _ sc' pifs (ok.blk bk s H C cl fp) h6)
      (fun s H C cl fp => (eOk fx e _ sc' B0 FX pe' (ok.blk bk s H C cl fp) (takes_no _) h7).1) (fold_plain h3)) ?_) rfl
    refine e_compV own_map fun i hi => ?_
    have := List.all_eq_true.mp h2 i hi
    simpa using this
theorem lOk (fx : Fct p n) : ∀ es : Exs, LOk p n es
  | .nil => fun X sc B E ps ok tk h => by
    cases ps with
    | nil => exact pa_nil'
    | cons _ _ => cases h
  | .cons e r => fun X sc B E ps ok tk h => by
    cases ps with
    | nil => cases h
    | cons q ps =>
      rw [mtL, Bool.and_eq_true, Bool.and_eq_true] at h
      exact pa_cons' h.1.1 (eOk fx e X sc B E q ok tk h.1.2).1 (lOk fx r X sc B E ps ok tk h.2)
theorem bOk (fx : Fct p n) : ∀ es : Exs, BOk p n es
  | .nil => fun X sc B E o ps ok tk h hne => by
    cases ps with
    | nil => exact absurd rfl hne
    | cons _ _ => cases h
  | .cons e .nil => fun X sc B E o ps ok tk h hne => by
    cases ps with
    | nil => cases h
    | cons q ps =>
      rw [mtL, Bool.and_eq_true, Bool.and_eq_true] at h
      cases ps with
      | nil =>
        have q := eOk fx e X sc B E q ok tk h.1.2
        exact bo_one q.1 q.2
      | cons _ _ => exact nomatch h.2
  | .cons e (.cons e' r) => fun X sc B E o ps ok tk h hne => by
    cases ps with
    | nil => cases h
    | cons q ps =>
      rw [mtL, Bool.and_eq_true, Bool.and_eq_true] at h
      have q := eOk fx e X sc B E q ok tk h.1.2
      exact bo_cons ok q.1 q.2 (bOk fx (.cons e' r) X sc B E o ps ok tk h.2 (by intro z; subst z; exact nomatch h.2))
theorem cOk (fx : Fct p n) : ∀ cs : Cms, COk p n cs
  | .one o e => fun X sc B E ops ps ok tk h => by
    rcases ops with _ | ⟨op, _ | ⟨_, _⟩⟩
    · simp [mtC] at h
    · rcases ps with _ | ⟨q, _ | ⟨_, _⟩⟩
      · simp [mtC] at h
      · rw [mtC, Bool.and_eq_true, Bool.and_eq_true, decide_eq_true_eq] at h
        obtain ⟨⟨rfl, h1⟩, h2⟩ := h
        exact ch_one ok h1 (eOk fx e X sc B E q ok tk h2).1
      · simp [mtC] at h
    · simp [mtC] at h
  | .cons o e r => fun X sc B E ops ps ok tk h => by
    rcases ops with _ | ⟨op, ops⟩
    · simp [mtC] at h
    · rcases ps with _ | ⟨q, ps⟩
      · simp [mtC] at h
      · rw [mtC, Bool.and_eq_true, Bool.and_eq_true, Bool.and_eq_true, decide_eq_true_eq] at h
        obtain ⟨⟨⟨rfl, h1⟩, h2⟩, h3⟩ := h
        exact ch_cons ok (eOk fx e X sc B E q ok tk h2).1 (cOk fx r X sc B E ops ps ok tk h3)
theorem oOk (fx : Fct p n) : ∀ o : Exo, OOk p n o
  | .no => fun X sc B E po ok tk h => by
    cases po with
    | none => exact o_no
    | some _ => cases h
  | .so e => fun X sc B E po ok tk h => by
    cases po with
    | none => cases h
    | some q =>
      rw [mtO] at h
      exact o_so (eOk fx e X sc B E q ok tk h).1
theorem tsOk (fx : Fct p n) : ∀ c : Exo, TsOk p n c
  | .no => fun X sc ps ok h => by
    cases ps with
    | nil => exact ⟨fun pins s σ H Q I q => pts_nil.run pins s σ H Q I (by
        obtain ⟨ms, S, σI, a, q⟩ := q
        exact q _ _ .refl a.sm)⟩
    | cons _ _ => simp [mtT] at h
  | .so e => fun X sc ps ok h => by
    rcases ps with _ | ⟨q, _ | ⟨_, _⟩⟩
    · simp [mtT] at h
    · rw [mtT] at h
      have w := (eOk fx e X sc B0 FX q ok (takes_no _) h).2
      exact ⟨fun pins s σ H Q I q => (pts_one w).run pins s σ H Q I (by
        obtain ⟨ms, S, σI, a, q⟩ := q
        exact ⟨ms, S, σI, a, mE e FX _ _ _ _ (fun d S' q => tru_mono (fun b q => q) q) q⟩)⟩
    · simp [mtT] at h
theorem iOk (fx : Fct p n) : ∀ it : It, IOk p n it
  | .ex e => fun X sc B E tg pe ok tk h => by
    rw [mtI] at h
    exact i_ex ok (eOk fx e X sc B E pe ok tk h).1
  | .range es => fun X sc B E tg pe ok tk h => by
    obtain ⟨x, p1, ps, pos, rfl, h1, h2, h3, h4, h5⟩ := mt_range h
    exact i_range fx ok h1 h2 h4 h3 h5 (lOk fx es X sc B E ps ok tk h5)
  | .zip a b => fun X sc B E tg pe ok tk h => by
    obtain ⟨x, p1, pa, pb, pos, ht, rfl, h1, h2, h3, h4, h5, h6⟩ := mt_zip h
    obtain ⟨ps, k, tpos, rfl⟩ := isTup_of ht
    exact i_zip fx ok h1 h2 h3 h4 (eOk fx a X sc B E pa ok tk h5).1 (eOk fx b X sc B E pb ok tk h6).1
  | .enum a => fun X sc B E tg pe ok tk h => by
    obtain ⟨x, p1, pa, pos, ht, rfl, h1, h2, h3, h4⟩ := mt_enum h
    obtain ⟨ps, k, tpos, rfl⟩ := isTup_of ht
    exact i_enum fx ok h1 h2 h3 (eOk fx a X sc B E pa ok tk h4).1
theorem gOk' (fx : Fct p n) : ∀ t : Tg, GOk p n t
  | .var i => fun X sc B E pe ok tk hB h => by
    obtain ⟨x, pos, rfl, h1, h2⟩ := mt_gvar h
    exact g_var ok h1 h2
  | .tup ts => fun X sc B E pe ok tk hB h => by
    obtain ⟨ps, k, pos, rfl, h1⟩ := mt_gtup h
    have q := mtGs_each (env := X.env) h1
    exact g_tup ok (gsOk fx ts X sc B E ps ok tk hB h1) q.1 q.2
  | .ix o i => fun X sc B E pe ok tk hB h => by
    obtain ⟨po, pi_, pos, rfl, hp, h1, h2⟩ := mt_gix h
    exact g_ix ok hp (eOk fx o X sc B E po ok tk h1).1 (eOk fx i X sc B E pi_ ok tk h2).1
  | .fld c f o => fun X sc B E pe ok tk hB h => by
    obtain ⟨po, name, pos, rfl, h1, h2, h3, h4⟩ := mt_gfld h
    exact g_fld fx ok h1 h2 h3 (eOk fx o X sc B E po ok tk h4).1
theorem gsOk (fx : Fct p n) : ∀ t : Tgs, GsOk p n t
  | .nil => fun X sc B E ps ok tk hB h => by
    cases ps with
    | nil => exact gs_nil
    | cons _ _ => cases h
  | .cons t r => fun X sc B E ps ok tk hB h => by
    cases ps with
    | nil => cases h
    | cons q ps =>
      rw [mtGs, Bool.and_eq_true, Bool.and_eq_true] at h
      exact gs_cons hB h.1.1 (gOk' fx t X sc B E q ok tk hB h.1.2) (gsOk fx r X sc B E ps ok tk hB h.2)
end
end
end MP

set_option Elab.async false
set_option linter.all false
set_option maxRecDepth 100000
set_option maxHeartbeats 2000000
namespace MP
open PySem L2 PySem.Spec
open PyProof.Rows hiding St
/-! ### stores in turn -/
def notName (sc : Scope) : Expr → Bool
  | .Name x _ => !(sc.names.lookup x == some .local)
  | _ => true
def swOk (sc : Scope) (ptg pe : Expr) : Bool := match pe with
  | .SetComp _ _ _ _ => false
  | .DictComp _ _ _ _ _ => false
  | .Tuple vs _ _ => match ptg with
    | .Tuple ts _ _ => ts.any (notName sc) || vs.all (foldedForSure 8)
    | .List _ _ => false
    | _ => true
  | _ => true
/-- a comprehension whose value goes straight into its name -/
def swLc (sc : Scope) (ptg pe : Expr) : Bool := match ptg, pe with
  | .Name t pos, .ListComp _ _ s _ => (sc.names.lookup t == some .local) && pos.line == pe.pos.line && !(s.names.any fun (n, k) => n == t && (k == .local || k == .cell))
  | _, _ => false
theorem fm_lt {α β : Type} (f : α → Option β) : ∀ {l : List α}, (∃ x ∈ l, f x = none) → (l.filterMap f).length < l.length
  | [], h => by obtain ⟨_, h, _⟩ := h; cases h
  | x :: r, h => by
    have hle := List.length_filterMap_le f r
    cases e : f x with
    | none =>
      rw [List.filterMap_cons, e]
      simp only [List.length_cons]; omega
    | some y =>
      obtain ⟨z, hz, ez⟩ := h
      rcases List.mem_cons.mp hz with q | q
      · subst q; rw [e] at ez; cases ez
      · have := fm_lt f ⟨z, q, ez⟩
        rw [List.filterMap_cons, e]
        simp only [List.length_cons]; omega
theorem sw_stores {ptg pe : Expr} {env : Env} {sc : Scope} (h : swOk sc ptg pe = true) (hsc : env.scope = sc) : swappedStores [ptg] pe env = pure none := by
  cases pe with
  | Tuple vs k pos =>
    cases ptg with
    | Tuple ts k2 p2 =>
      unfold swOk at h
      rw [Bool.or_eq_true] at h
      unfold swappedStores
      simp only
      split
      · rfl
      · split
        · rfl
        · rcases h with h | h
          · rw [if_pos]
            rw [Bool.or_eq_true]
            left
            rw [bne_iff_ne]
            obtain ⟨x, hx, hn⟩ := List.any_eq_true.mp h
            refine Nat.ne_of_lt (fm_lt _ ⟨x, hx, ?_⟩)
            cases x with
            | Name y py =>
              have hk : env.kindOf y = sc.names.lookup y := by rw [← hsc]; rfl
              simp only [notName, Bool.not_eq_true'] at hn
              simp only [hk, hn, Bool.false_and, Bool.false_eq_true, if_false]
            | _ => rfl
          · split
            · rfl
            · first
                | rfl
                | (rw [if_pos h]; rfl)
    | List _ _ => cases h
    | _ => rfl
  | _ => cases ptg <;> rfl
theorem sw_sole {ptg pe : Expr} {env : Env} {sc : Scope} {line : Nat} (h : swOk sc ptg pe = true) (hsc : env.scope = sc) (hl : swLc sc ptg pe = false) : swapsWithSole [ptg] pe line env = pure false := by
  show swapsWith pe (some ptg) line env = pure false
  cases pe with
  | ListComp elt gs s pos =>
    cases ptg with
    | Name t py =>
      unfold swLc at hl
      unfold swapsWith
      simp only
      have hk : env.kindOf t = sc.names.lookup t := by rw [← hsc]; rfl
      have : (env.blockKind == .function && env.kindOf t == some .local && py.line == (Expr.ListComp elt gs s pos).pos.line && !(s.names.any fun (n, k) => n == t && (k == .local || k == .cell))) = false := by
        rw [hk]
        cases env.blockKind == .function
        · rfl
        · simpa using hl
      rw [this]
    | _ => rfl
  | SetComp _ _ _ _ => cases h
  | DictComp _ _ _ _ _ => cases h
  | _ => rfl
theorem sw_lc {t : Str} {py pos : Pos} {elt : Expr} {gs : List Comprehension} {s : Scope} {env : Env} {sc : Scope} {line : Nat} (hk : env.scope.kind = .function) (hsc : env.scope = sc) (hl : swLc sc (.Name t py) (.ListComp elt gs s pos) = true) :
    swapsWith (.ListComp elt gs s pos) (some (.Name t py)) line env = pure true ∧ sc.names.lookup t = some .local := by
  unfold swLc at hl
  rw [Bool.and_eq_true, Bool.and_eq_true, beq_iff_eq, Bool.not_eq_true'] at hl
  exact ⟨sw_true hk (by rw [hsc]; exact hl.1.1) hl.1.2 hl.2, hl.1.1⟩
/-! ### statements -/
def noComp : Expr → Bool
  | .ListComp _ _ _ _ => false
  | .SetComp _ _ _ _ => false
  | .DictComp _ _ _ _ _ => false
  | _ => true
def isStrC : Expr → Bool
  | .Constant (.str _) _ _ => true
  | _ => false
structure ParX where
  x : Str
  y : Str
  px : Pos
  py : Pos
  kt : Nat
  pt : Pos
  a : Expr
  b : Expr
  k2 : Nat
  pt2 : Pos
  pos : Pos
def parI : List Nat → Option (Nat × Nat)
  | [i, j] => some (i, j)
  | _ => none
def parX : Stmt → Option ParX
  | .Assign [.Tuple [.Name x px, .Name y py] kt pt] (.Tuple [a, b] k2 pt2) pos => some ⟨x, y, px, py, kt, pt, a, b, k2, pt2, pos⟩
  | _ => none
theorem parI_eq {is i j} (h : parI is = some (i, j)) : is = [i, j] := by
  unfold parI at h
  split at h
  · cases h; rfl
  · cases h
theorem parX_eq {st q} (h : parX st = some q) : st = .Assign [.Tuple [.Name q.x q.px, .Name q.y q.py] q.kt q.pt] (.Tuple [q.a, q.b] q.k2 q.pt2) q.pos := by
  unfold parX at h
  split at h
  · cases h; rfl
  · cases h
mutual
def mtS (nm : Nm) (N : List Str) : Sm → Scope → Stmt → Bool
  | .asg t e, sc, .Assign [ptg] pe _ => plainE ptg && mtG nm N t sc ptg && mtE nm N e sc pe && swOk sc ptg pe
  | .par is es, sc, st => match parI is, parX st with
    | some (i, j), some q => decide (N[i]? = some q.x) && decide (N[j]? = some q.y) && decide (sc.names.lookup q.x = some .local) && decide (sc.names.lookup q.y = some .local) && decide (i ≠ j) && decide (q.x ≠ q.y) &&
      (q.py.line == q.px.line) && mtL nm N es sc [q.a, q.b] && !([q.a, q.b].all (foldedForSure 8)) && !([q.a, q.b].all (constantsAlone 8))
    | _, _ => false
  | .expr e, sc, .Expr pe _ => noComp pe && mtE nm N e sc pe
  | .ret e, sc, .Return (some pe) _ => mtE nm N e sc pe
  | .ret .non, _, .Return none _ => true
  | .ite c a b, sc, .If pc pa pb _ => mtE nm N c sc pc && mtSs nm N a sc pa && mtSs nm N b sc pb
  | .whl c b, sc, .While pc pb [] _ => mtE nm N c sc pc && mtSs nm N b sc pb
  | .for_ t it b, sc, .For ptg pit pb [] _ => plainE pit && mtI nm N it sc pit (isTup ptg) && mtG nm N t sc ptg && mtSs nm N b sc pb
  | .pass, _, .Pass _ => true
  | .brk, _, .Break _ => true
  | .cont, _, .Continue _ => true
  | .dead, _, _ => true
  | _, _, _ => false
def mtSs (nm : Nm) (N : List Str) : Sms → Scope → List Stmt → Bool
  | .nil, _, [] => true
  | .cons s r, sc, p :: ps => mtS nm N s sc p && mtSs nm N r sc ps
  | _, _, _ => false
end
section
variable {p : Pg} {n : Nat} {X : Cx} {sc : Scope} {B : Bs} {E : XPost}
def knO (G : Gx) (D : L2.Ends) (ms : Md) (H : Hp) : Kn :=
  ⟨fun σI' S' => ∀ σ' ms' H', Grow ms H ms' H' → Sim G ms' H' S' → Sl G ms' H' σI' σ' → D.nx σ' H', fun d S' => ∀ v ms' H', Grow ms H ms' H' → Sim G ms' H' S' → RD G ms' H' d v → D.rt v H',
   fun σI' S' => ∀ σ' ms' H', Grow ms H ms' H' → Sim G ms' H' S' → Sl G ms' H' σI' σ' → D.bk σ' H', fun σI' S' => ∀ σ' ms' H', Grow ms H ms' H' → Sim G ms' H' S' → Sl G ms' H' σI' σ' → D.ct σ' H'⟩
def lS (p : Pg) (n : Nat) (B : Bs) (s : Sm) (E : XPost) : TS := fun D σ H => ∃ ms S σI, At p.G B ms H S σI σ ∧ wpS (cfp p n) p.ge p.up s E σI S (knO p.G D ms H)
def lSs (p : Pg) (n : Nat) (B : Bs) (s : Sms) (E : XPost) : TS := fun D σ H => ∃ ms S σI, At p.G B ms H S σI σ ∧ wpSs (cfp p n) p.ge p.up s E σI S (knO p.G D ms H)
theorem mS (s : Sm) {σ S K K'} (h : Kle K K') (q : wpS (cfp p n) p.ge p.up s E σ S K) : wpS (cfp p n) p.ge p.up s E σ S K' := wpS_mono (cfn_mono n) s (fun _ _ _ q => q) h q
theorem mSs (s : Sms) {σ S K K'} (h : Kle K K') (q : wpSs (cfp p n) p.ge p.up s E σ S K) : wpSs (cfp p n) p.ge p.up s E σ S K' := wpSs_mono (cfn_mono n) s (fun _ _ _ q => q) h q
/-- slots that change are none that an exception's wish is bound to -/
theorem At.slot {G ms H S σI σ ms' H' S' σI' σ'} (a : At G B ms H S σI σ) (hB : B.sg = none) (g : Grow ms H ms' H') (s : Sim G ms' H' S') (sl : Sl G ms' H' σI' σ') : At G B ms' H' S' σI' σ' := ⟨a.g.next g, fun s0 e => (by rw [hB] at e; cases e), s, sl⟩
theorem s_asg {t : Tg} {e : Ex} {ptg pe : Expr} {pos : Pos} (ok : XOk p X sc n) (hsc : X.env.scope = sc) (hB : B.sg = none) (hp : plainE ptg = true) (hg : PG X ptg (lG p n B t E)) (he : PE X pe (lE p.G B (tE p n e E))) (hw : swOk sc ptg pe = true) (hl : swLc sc ptg pe = false) : PS X (.Assign [ptg] pe pos) (lS p n B (.asg t e) E) :=
  PS.weak (ps_asg he hg (sw_sole hw hsc hl) (sw_stores hw hsc) (by rw [aE_plain hp]; rfl)) fun D σ H q => by
    obtain ⟨ms, S, σI, a, q⟩ := q
    refine lE_into (mE e E) a q fun d S1 v ms1 H1 g1 s1 r1 q => ?_
    exact ⟨ms1, S1, σI, d, a.next g1 s1, r1, mG t (fun σ2 S2 q σ' ms' H' hag g s sl => q σ' ms' H' (g1.trans g) s sl) q⟩
theorem s_expr {e : Ex} {pe : Expr} {pos : Pos} (hn : noComp pe = true) (he : PE X pe (lE p.G B (tE p n e E))) : PS X (.Expr pe pos) (lS p n B (.expr e) E) :=
  PS.weak (ps_expr he (by cases pe <;> first | rfl | cases hn)) fun D σ H q => by
    obtain ⟨ms, S, σI, a, q⟩ := q
    exact lE_into (mE e E) a q fun d S1 v ms1 H1 g1 s1 r1 q => q σ ms1 H1 g1 s1 (a.sl.grow g1)
theorem s_ret {e : Ex} {pe : Expr} {pos : Pos} (he : PE X pe (lE p.G B (tE p n e E))) : PS X (.Return (some pe) pos) (lS p n B (.ret e) E) :=
  PS.weak (ps_ret he) fun D σ H q => by
    obtain ⟨ms, S, σI, a, q⟩ := q
    exact lE_into (mE e E) a q fun d S1 v ms1 H1 g1 s1 r1 q => q v ms1 H1 g1 s1 r1
theorem s_retN {pos : Pos} : PS X (.Return none pos) (lS p n B (.ret .non) E) :=
  PS.weak ps_retN fun D σ H q => by
    obtain ⟨ms, S, σI, a, q⟩ := q
    exact (show (knO p.G D ms H).rt (.t .non) S from q) _ _ _ .refl a.sm (.t .non)
theorem kn_grow {D : L2.Ends} {ms H ms1 H1} (g : Grow ms H ms1 H1) : Kle (knO p.G D ms H) (knO p.G D ms1 H1) :=
  ⟨fun σ S q σ' ms' H' g' s sl => q σ' ms' H' (g.trans g') s sl, fun d S q v ms' H' g' s r => q v ms' H' (g.trans g') s r, fun σ S q σ' ms' H' g' s sl => q σ' ms' H' (g.trans g') s sl, fun σ S q σ' ms' H' g' s sl => q σ' ms' H' (g.trans g') s sl⟩
theorem s_ite {c : Ex} {a b : Sms} {pc : Expr} {pa pb : List Stmt} {pos : Pos} (ok : XOk p X sc n) (hc : PT X pc (lT p.G B (tE p n c E))) (ha : PSs X pa (lSs p n B a E)) (hb : PSs X pb (lSs p n B b E)) : PS X (.If pc pa pb pos) (lS p n B (.ite c a b) E) :=
  PS.weak (ps_if hc ha hb) fun D σ H q => by
    obtain ⟨ms, S, σI, at_, q⟩ := q
    refine lT_into (mE c E) at_ q fun d S1 q => tru_mono (fun v q ms1 H1 g1 s1 => ?_) q
    cases v with
    | true => exact iteT ⟨ms1, S1, σI, at_.next g1 s1, mSs a (kn_grow g1) q⟩
    | false => exact iteF ⟨ms1, S1, σI, at_.next g1 s1, mSs b (kn_grow g1) q⟩
theorem par_stores {x y : Str} {px py pt pt2 : Pos} {kt k2 : Nat} {a b : Expr} {env : Env} {sc : Scope} (hk : env.scope.kind = .function) (hsc : env.scope = sc) (hx : sc.names.lookup x = some .local) (hy : sc.names.lookup y = some .local) (hxy : x ≠ y) (hl : (py.line == px.line) = true)
    (ha : plainE a = true) (hb : plainE b = true) (h1 : ([a, b].all (foldedForSure 8)) = false) (h2 : ([a, b].all (constantsAlone 8)) = false) : swappedStores [.Tuple [.Name x px, .Name y py] kt pt] (.Tuple [a, b] k2 pt2) env = pure (some [x, y]) := by
  have hb0 : env.blockKind = .function := by unfold Env.blockKind; rw [hk]; rfl
  have kx : env.kindOf x = some .local := by rw [show env.kindOf x = env.scope.names.lookup x from rfl, hsc]; exact hx
  have ky : env.kindOf y = some .local := by rw [show env.kindOf y = env.scope.names.lookup y from rfl, hsc]; exact hy
  unfold swappedStores
  have hd : [x, y].eraseDups = [x, y] := by
    have : (y == x) = false := beq_eq_false_iff_ne.mpr (Ne.symm hxy)
    simp [List.eraseDups_cons, this]
  simp only [hb0, List.filterMap_cons, List.filterMap_nil, kx, ky, List.head?_cons, Option.map_some, Option.getD_some, Expr.pos, beq_self_eq_true, Bool.true_and, hl, if_true, h1, h2, hd]
  refine Eq.trans (if_neg Bool.false_ne_true) (Eq.trans (if_neg fun h => ?_) ?_)
  · obtain ⟨z, hz, e⟩ := List.any_eq_true.mp h
    have hpz : plainE z = true := by
      rcases List.mem_cons.mp hz with q | q
      · rw [q]; exact ha
      · rw [List.mem_singleton.mp q]; exact hb
    cases z <;> first | (cases hpz; done) | (cases e; done)
  · rfl
theorem s_par {i j : Nat} {es : Exs} {x y : Str} {px py pt pt2 pos : Pos} {kt k2 : Nat} {a b : Expr} (ok : XOk p X sc n) (hsc : X.env.scope = sc) (hi : X.N[i]? = some x) (hj : X.N[j]? = some y) (hx : sc.names.lookup x = some .local) (hy : sc.names.lookup y = some .local) (hij : i ≠ j) (hxy : x ≠ y)
    (hl : (py.line == px.line) = true) (hm : mtL p.nm X.N es sc [a, b] = true) (h1 : ([a, b].all (foldedForSure 8)) = false) (h2 : ([a, b].all (constantsAlone 8)) = false) (ha : PA X [a, b] (lA p.G B (tL p n es E))) :
    PS X (.Assign [.Tuple [.Name x px, .Name y py] kt pt] (.Tuple [a, b] k2 pt2) pos) (lS p n B (.par [i, j] es) E) := by
  obtain ⟨hp, es', hr⟩ := mtL_first hm
  obtain ⟨hp2, _, _⟩ := mtL_first hr
  refine PS.weak (ps_par ok.calm ok.nd hi hj hij (by rw [hsc]; exact hx) (by rw [hsc]; exact hy) ha (par_stores ok.kd hsc hx hy hxy hl hp hp2 h1 h2)) fun D σ H q => ?_
  obtain ⟨ms, S, σI, at_, q⟩ := q
  refine lA_into es at_ (mtL_len hm q) fun ds S1 vs ms1 H1 g s r q => ?_
  obtain ⟨hlen, q⟩ := q
  rcases ds with _ | ⟨d1, _ | ⟨d2, _ | ⟨_, _⟩⟩⟩
  · cases hlen
  · cases hlen
  · obtain ⟨v, w, rfl, r1, r2⟩ := r.two
    exact ⟨v, w, rfl, q _ ms1 H1 g s (((at_.sl.grow g).set r1).set r2)⟩
  · simp at hlen
theorem s_whl {c : Ex} {b : Sms} {pc : Expr} {pb : List Stmt} {pos : Pos} (ok : XOk p X sc n) (hB : B.sg = none) (hp : PassesOwn (model X.prog X.w) X.A X.env X.xe) (hc : PT X pc (lT p.G B (tE p n c E))) (hb : PSs X pb (lSs p n B b E)) : PS X (.While pc pb [] pos) (lS p n B (.whl c b) E) :=
  PS.weak (ps_while hp hc hb) fun D σ H q => by
    obtain ⟨ms, S, σI, at_, q⟩ := q
    obtain ⟨W, ⟨m0, w0⟩, step⟩ := q
    refine ⟨fun m σ1 H1 => ∃ ms1 S1 σI1, Grow ms H ms1 H1 ∧ Sim p.G ms1 H1 S1 ∧ Sl p.G ms1 H1 σI1 σ1 ∧ W m σI1 S1, ⟨m0, ms, S, σI, .refl, at_.sm, at_.sl, w0⟩, ?_⟩
    rintro m σ1 H1 ⟨ms1, S1, σI1, g1, s1, sl1, w1⟩
    have a1 := at_.slot hB g1 s1 sl1
    refine lT_into (mE c E) a1 (step m σI1 S1 w1) fun d S2 q => tru_mono (fun v q ms2 H2 g2 s2 => ?_) q
    cases v with
    | true =>
      refine iteT ⟨fun σ3 H3 => ∃ m', m' < m ∧ ∃ ms1 S1 σI1, Grow ms H ms1 H3 ∧ Sim p.G ms1 H3 S1 ∧ Sl p.G ms1 H3 σI1 σ3 ∧ W m' σI1 S1, fun σ' H' h => h, ms2, S2, σI1, a1.next g2 s2, mSs b ?_ q⟩
      refine ⟨?_, ?_, ?_, ?_⟩
      · rintro σ3 S3 ⟨m', hm, w3⟩ σ' ms' H' g' s' sl'
        exact ⟨m', hm, ms', S3, σ3, (g1.trans g2).trans g', s', sl', w3⟩
      · exact fun d S3 q v ms' H' g' s' r => q v ms' H' ((g1.trans g2).trans g') s' r
      · exact fun σ3 S3 q σ' ms' H' g' s' sl' => q σ' ms' H' ((g1.trans g2).trans g') s' sl'
      · rintro σ3 S3 ⟨m', hm, w3⟩ σ' ms' H' g' s' sl'
        exact ⟨m', hm, ms', S3, σ3, (g1.trans g2).trans g', s', sl', w3⟩
    | false => exact iteF (q σ1 ms2 H2 (g1.trans g2) s2 (sl1.grow g2))
theorem s_for {t : Tg} {it : It} {b : Sms} {ptg pit : Expr} {pb : List Stmt} {pos : Pos} (ok : XOk p X sc n) (hB : B.sg = none) (hp : PassesOwn (model X.prog X.w) X.A X.env X.xe) (hpl : plainE pit = true) (hi : PI X ptg pit (lI p n B it E)) (hg : PG X ptg (lG p n B t E)) (hb : PSs X pb (lSs p n B b E)) :
    PS X (.For ptg pit pb [] pos) (lS p n B (.for_ t it b) E) :=
  PS.weak (ps_for hp ok.calm hi hg hb (fold_plain hpl)) fun D σ H q => by
    obtain ⟨ms, S, σI, at_, q⟩ := q
    refine lI_into it at_ q fun l gd S1 J ms1 H1 g1 s1 its q => ?_
    refine ⟨fun i k σ2 H2 => ∃ ms2 S2 σI2, k = l.length - i ∧ i ≤ l.length ∧ Grow ms1 H1 ms2 H2 ∧ Sim p.G ms2 H2 S2 ∧ Sl p.G ms2 H2 σI2 σ2 ∧
      forL gd (fun d σ2 S2 K2 => wpG (cfp p n) p.ge p.up t E d σ2 S2 fun σ3 S3 => wpSs (cfp p n) p.ge p.up b E σ3 S3 K2) (l.drop i) σI2 S2 (knO p.G D ms H), ⟨_, ms1, S1, σI, rfl, Nat.zero_le _, .refl, s1, at_.sl.grow g1, q.un⟩, ?_⟩
    rintro i k σ2 H2 ⟨ms2, S2, σI2, rfl, hi, g2, s2, sl2, q⟩
    have gw := Gw.of g2
    cases hd : l.drop i with
    | nil =>
      rw [hd] at q
      unfold forL at q
      obtain ⟨go, q⟩ := grd_ok q
      exact .inl ⟨its.stop ms2 H2 S2 i gw s2 go (List.drop_eq_nil_iff.mp hd), q σ2 ms2 H2 (g1.trans g2) s2 sl2⟩
    | cons x r =>
      rw [hd] at q
      unfold forL at q
      obtain ⟨go, q⟩ := grd_ok q
      obtain ⟨hx, hr⟩ := drop_get hd
      have hlt : i < l.length := (List.getElem?_eq_some_iff.mp hx).1
      refine .inr ⟨its.go ms2 H2 S2 i x gw s2 go hx, fun σ3 H3 => ∃ ms3 S3 σI3, Grow ms1 H1 ms3 H3 ∧ Sim p.G ms3 H3 S3 ∧ Sl p.G ms3 H3 σI3 σ3 ∧
        forL gd (fun d σ2 S2 K2 => wpG (cfp p n) p.ge p.up t E d σ2 S2 fun σ3 S3 => wpSs (cfp p n) p.ge p.up b E σ3 S3 K2) (l.drop (i + 1)) σI3 S3 (knO p.G D ms H),
        fun σ3 H3 ⟨ms3, S3, σI3, c1, c2, c3, c4⟩ => ⟨l.length - (i + 1), by omega, ms3, S3, σI3, rfl, hlt, c1, c2, c3, c4⟩, fun v H3 y => ?_⟩
      obtain ⟨g3, s3, r3⟩ := its.yld ms2 H2 S2 i x v H3 gw s2 go hx y
      have at3 := at_.slot hB ((g1.trans g2).trans g3) s3 (sl2.grow g3)
      refine ⟨ms2, S2, σI2, _, at3, .t r3, mG t (fun σ4 S4 q σ' ms4 H4 hag g4 s4 sl4 => ?_) q⟩
      refine ⟨ms4, S4, σ4, at3.slot hB g4 s4 sl4, mSs b ?_ q⟩
      have gg := g3.trans g4
      have go2 := (g1.trans g2).trans gg
      rw [hr]
      refine ⟨?_, ?_, ?_, ?_⟩
      · exact fun σ5 S5 q σ' ms' H' g' s' sl' => ⟨ms', S5, σ5, (g2.trans gg).trans g', s', sl', q⟩
      · exact fun d S5 q v ms' H' g' s' r => q v ms' H' (go2.trans g') s' r
      · exact fun σ5 S5 q σ' ms' H' g' s' sl' => q σ' ms' H' (go2.trans g') s' sl'
      · exact fun σ5 S5 q σ' ms' H' g' s' sl' => ⟨ms', S5, σ5, (g2.trans gg).trans g', s', sl', q⟩
theorem ss_nil : PSs X [] (lSs p n B .nil E) := PSs.weak pss_nil fun D σ H q => by
  obtain ⟨ms, S, σI, at_, q⟩ := q
  exact q σ ms H .refl at_.sm at_.sl
theorem ss_cons {s : Sm} {r : Sms} {st : Stmt} {ps : List Stmt} (hB : B.sg = none) (h : PS X st (lS p n B s E)) (hr : PSs X ps (lSs p n B r E)) : PSs X (st :: ps) (lSs p n B (.cons s r) E) :=
  PSs.weak (pss_cons h hr) fun D σ H q => by
    obtain ⟨ms, S, σI, at_, q⟩ := q
    unfold wpSs at q
    refine ⟨ms, S, σI, at_, mS s ?_ q⟩
    refine ⟨fun σ1 S1 q σ' ms1 H1 g1 s1 sl1 => ?_, fun d S q => q, fun σ S q => q, fun σ S q => q⟩
    exact ⟨ms1, S1, σ1, at_.slot hB g1 s1 sl1, mSs r (kn_grow g1) q⟩
/-- a list comprehension straight into its name -/
theorem s_lc {i : Nat} {m : Bool} {vs : List Nat} {tg : Tg} {it : It} {c : Exo} {e : Ex} {y : Str} {py : Pos} {pe ptg pit : Expr} {pifs : List Expr} {sc' : Scope} {pos spos : Pos} (fx : Fct p n) (ok : XOk p X sc n) (tk : Takes X (wX p B E)) (hsc : X.env.scope = sc) (hy : X.N[i]? = some y)
    (hl : swLc sc (.Name y py) (.ListComp pe [⟨ptg, pit, pifs, 0⟩] sc' pos) = true) (h1 : blkC X.N sc sc' (vs.map fun i => (X.N.getD i (Str.mk #[]), i)) = true) (h2 : subsetB (tgVars tg) vs = true) (h3 : plainE pit = true) (h4 : mtI p.nm X.N it sc pit (isTup ptg) = true) (h5 : mtG p.nm X.N tg sc' ptg = true)
    (h6 : mtT p.nm X.N c sc' pifs = true) (h7 : mtE p.nm X.N e sc' pe = true) : PS X (.Assign [.Name y py] (.ListComp pe [⟨ptg, pit, pifs, 0⟩] sc' pos) spos) (lS p n B (.asg (.var i) (.comp m vs tg it c e)) E) := by
  have bk := blk_env ok (blkOk_by h1)
  obtain ⟨w1, w2⟩ := sw_lc (line := spos.line) ok.kd hsc hl
  refine PS.weak (ps_setLc ok.calm ok.nd hy (by rw [hsc]; exact w2) w1 (iOk fx it X sc B E ptg pit ok tk h4) bk (fun s H C cl fp => gOk' fx tg _ sc' B0 FX ptg (ok.blk bk s H C cl fp) (takes_no _) rfl h5) (fun s H C cl fp => tsOk fx c _ sc' pifs (ok.blk bk s H C cl fp) h6)
      (fun s H C cl fp => (eOk fx e _ sc' B0 FX pe (ok.blk bk s H C cl fp) (takes_no _) h7).1) (fold_plain h3)) fun D σ H q => ?_
  obtain ⟨ms, S, σI, at_, q⟩ := q
  refine e_compV (m := m) (E := E) (B := B) own_map (fun i hi => ?_) σ H _ ⟨ms, S, σI, at_, mE _ E _ _ _ _ (fun d S1 q v ms1 H1 g1 s1 r1 => ?_) q⟩
  · have := List.all_eq_true.mp h2 i hi
    simpa using this
  · exact q _ ms1 H1 g1 s1 ((at_.sl.grow g1).set r1)
theorem s_pass {pos : Pos} : PS X (.Pass pos) (lS p n B .pass E) := PS.weak ps_pass fun D σ H q => by
  obtain ⟨ms, S, σI, at_, q⟩ := q
  exact q σ ms H .refl at_.sm at_.sl
theorem s_brk {pos : Pos} : PS X (.Break pos) (lS p n B .brk E) := PS.weak ps_break fun D σ H q => by
  obtain ⟨ms, S, σI, at_, q⟩ := q
  exact q σ ms H .refl at_.sm at_.sl
theorem s_cont {pos : Pos} : PS X (.Continue pos) (lS p n B .cont E) := PS.weak ps_continue fun D σ H q => by
  obtain ⟨ms, S, σI, at_, q⟩ := q
  exact q σ ms H .refl at_.sm at_.sl
theorem s_dead {st : Stmt} : PS X st (lS p n B .dead E) := PS.weak ps_never fun D σ H q => by
  obtain ⟨ms, S, σI, at_, q⟩ := q
  exact q
theorem mt_par {nm : Nm} {N : List Str} {is : List Nat} {es : Exs} {st : Stmt} (h : mtS nm N (.par is es) sc st = true) : ∃ i j x y px py kt pt a b k2 pt2 pos, is = [i, j] ∧ st = .Assign [.Tuple [.Name x px, .Name y py] kt pt] (.Tuple [a, b] k2 pt2) pos ∧ N[i]? = some x ∧ N[j]? = some y ∧ sc.names.lookup x = some .local ∧ sc.names.lookup y = some .local ∧ i ≠ j ∧ x ≠ y ∧
    (py.line == px.line) = true ∧ mtL nm N es sc [a, b] = true ∧ ([a, b].all (foldedForSure 8)) = false ∧ ([a, b].all (constantsAlone 8)) = false := by
  rw [mtS] at h
  split at h
  · rename_i i j q e1 e2
    have e1 := parI_eq e1
    have e2 := parX_eq e2
    simp only [Bool.and_eq_true, decide_eq_true_eq, Bool.not_eq_true'] at h
    obtain ⟨⟨⟨⟨⟨⟨⟨⟨⟨h1, h2⟩, h3⟩, h4⟩, h5⟩, h6⟩, h7⟩, h8⟩, h9⟩, h10⟩ := h
    exact ⟨_, _, _, _, _, _, _, _, _, _, _, _, _, e1, e2, h1, h2, h3, h4, h5, h6, h7, h8, h9, h10⟩
  · cases h
def SOk (p : Pg) (n : Nat) (s : Sm) : Prop := ∀ (X : Cx) (sc : Scope) (B : Bs) (E : XPost) (st : Stmt), XOk p X sc n → X.env.scope = sc → Takes X (wX p B E) → PassesOwn (model X.prog X.w) X.A X.env X.xe → B.sg = none → mtS p.nm X.N s sc st = true → PS X st (lS p n B s E)
def SsOk (p : Pg) (n : Nat) (s : Sms) : Prop := ∀ (X : Cx) (sc : Scope) (B : Bs) (E : XPost) (st : List Stmt), XOk p X sc n → X.env.scope = sc → Takes X (wX p B E) → PassesOwn (model X.prog X.w) X.A X.env X.xe → B.sg = none → mtSs p.nm X.N s sc st = true → PSs X st (lSs p n B s E)
mutual
theorem sOk (fx : Fct p n) : ∀ s : Sm, SOk p n s
  | .asg t e => fun X sc B E st ok hsc tk hp hB h => by
    have inv : ∃ ptg pe pos, st = .Assign [ptg] pe pos ∧ plainE ptg = true ∧ mtG p.nm X.N t sc ptg = true ∧ mtE p.nm X.N e sc pe = true ∧ swOk sc ptg pe = true := by
      cases st with
      | Assign ts pe pos =>
        rcases ts with _ | ⟨ptg, _ | ⟨_, _⟩⟩
        · simp [mtS] at h
        · rw [mtS, Bool.and_eq_true, Bool.and_eq_true, Bool.and_eq_true] at h
          exact ⟨_, _, _, rfl, h.1.1.1, h.1.1.2, h.1.2, h.2⟩
        · simp [mtS] at h
      | _ => simp [mtS] at h
    obtain ⟨ptg, pe, pos, rfl, h1, h2, h3, h4⟩ := inv
    cases hl : swLc sc ptg pe with
    | false => exact s_asg ok hsc hB h1 (gOk' fx t X sc B E ptg ok tk hB h2) (eOk fx e X sc B E pe ok tk h3).1 h4 hl
    | true =>
      cases ptg with
      | Name y py =>
        cases pe with
        | ListComp pe' gs sc' pos' =>
          cases t with
          | var i =>
            obtain ⟨y', py', ey, hy, _⟩ := mt_gvar h2
            cases ey
            cases e with
            | comp m vs tg it c e =>
              obtain ⟨pe2, ptg, pit, pifs, sc2, pos2, ee, q1, q2, q3, q4, q5, q6, q7⟩ := mt_comp h3
              cases ee
              exact s_lc fx ok tk hsc hy hl q1 q2 q3 q4 q5 q6 q7
            | _ => exact absurd h3 (by simp [mtE])
          | _ => exact absurd h2 (by simp [mtG])
        | _ => cases hl
      | _ => cases hl
  | .par is es => fun X sc B E st ok hsc tk hp hB h => by
    obtain ⟨i, j, x, y, px, py, kt, pt, a, b, k2, pt2, pos, rfl, rfl, h1, h2, h3, h4, h5, h6, h7, h8, h9, h10⟩ := mt_par h
    exact s_par ok hsc h1 h2 h3 h4 h5 h6 h7 h8 h9 h10 (lOk fx es X sc B E [a, b] ok tk h8)
  | .expr e => fun X sc B E st ok hsc tk hp hB h => by
    cases st with
    | Expr pe pos =>
      rw [mtS, Bool.and_eq_true] at h
      exact s_expr h.1 (eOk fx e X sc B E pe ok tk h.2).1
    | _ => simp [mtS] at h
  | .ret e => fun X sc B E st ok hsc tk hp hB h => by
    cases st with
    | Return v pos =>
      cases v with
      | some pe =>
        rw [mtS] at h
        exact s_ret (eOk fx e X sc B E pe ok tk h).1
      | none =>
        cases e with
        | non => exact s_retN
        | _ => simp [mtS] at h
    | _ => simp [mtS] at h
  | .ite c a b => fun X sc B E st ok hsc tk hp hB h => by
    cases st with
    | If pc pa pb pos =>
      rw [mtS, Bool.and_eq_true, Bool.and_eq_true] at h
      exact s_ite ok (eOk fx c X sc B E pc ok tk h.1.1).2 (ssOk fx a X sc B E pa ok hsc tk hp hB h.1.2) (ssOk fx b X sc B E pb ok hsc tk hp hB h.2)
    | _ => simp [mtS] at h
  | .whl c b => fun X sc B E st ok hsc tk hp hB h => by
    cases st with
    | While pc pb pe pos =>
      cases pe with
      | nil =>
        rw [mtS, Bool.and_eq_true] at h
        exact s_whl ok hB hp (eOk fx c X sc B E pc ok tk h.1).2 (ssOk fx b X sc B E pb ok hsc tk hp hB h.2)
      | cons _ _ => simp [mtS] at h
    | _ => simp [mtS] at h
  | .for_ t it b => fun X sc B E st ok hsc tk hp hB h => by
    cases st with
    | For ptg pit pb pe pos =>
      cases pe with
      | nil =>
        rw [mtS, Bool.and_eq_true, Bool.and_eq_true, Bool.and_eq_true] at h
        exact s_for ok hB hp h.1.1.1 (iOk fx it X sc B E ptg pit ok tk h.1.1.2) (gOk' fx t X sc B E ptg ok tk hB h.1.2) (ssOk fx b X sc B E pb ok hsc tk hp hB h.2)
      | cons _ _ => simp [mtS] at h
    | _ => simp [mtS] at h
  | .raise c es => fun X sc B E st ok hsc tk hp hB h => by
    cases st <;> simp [mtS] at h
  | .pass => fun X sc B E st ok hsc tk hp hB h => by
    cases st with
    | Pass pos => exact s_pass
    | _ => simp [mtS] at h
  | .brk => fun X sc B E st ok hsc tk hp hB h => by
    cases st with
    | Break pos => exact s_brk
    | _ => simp [mtS] at h
  | .cont => fun X sc B E st ok hsc tk hp hB h => by
    cases st with
    | Continue pos => exact s_cont
    | _ => simp [mtS] at h
  | .dead => fun X sc B E st ok hsc tk hp hB h => s_dead
  | .tryE e isRet c i b => fun X sc B E st ok hsc tk hp hB h => by
    cases st <;> simp [mtS] at h
theorem ssOk (fx : Fct p n) : ∀ s : Sms, SsOk p n s
  | .nil => fun X sc B E st ok hsc tk hp hB h => by
    cases st with
    | nil => exact ss_nil
    | cons _ _ => cases h
  | .cons s r => fun X sc B E st ok hsc tk hp hB h => by
    cases st with
    | nil => cases h
    | cons q ps =>
      rw [mtSs, Bool.and_eq_true] at h
      exact ss_cons hB (sOk fx s X sc B E q ok hsc tk hp hB h.1) (ssOk fx r X sc B E ps ok hsc tk hp hB h.2)
end
end
end MP

set_option Elab.async false
set_option linter.all false
set_option maxRecDepth 100000
set_option maxHeartbeats 2000000
namespace MP
open PySem L2 PySem.Spec
open PyProof.Rows hiding St
/-! ### a def's way out -/
section
variable {G : Gx} {ms ms2 : Md} {H0 H : Hp}
theorem back_bad (g : Grow ms H0 ms2 H) : ∀ x, ms.bad x → ms2.bad x ∨ H x = none := fun x h => by
  obtain ⟨more, e, _⟩ := g.pre
  rcases h with h | h
  · exact .inl (.inl (by rw [g.ff]; exact h))
  · exact .inl (.inr (by rw [e]; exact List.mem_append.mpr (.inl h)))
theorem back_nth (g : Grow ms H0 ms2 H) {n a} (hn : n < ms.a.length) (h : nth ms2.a n = some a) : nth ms.a n = some a := by
  obtain ⟨more, e, _⟩ := g.pre
  rw [e, nth_app_lt hn] at h
  exact h
theorem RDs.out {k0 : Nat} {m3 : Md} (b : ∀ x, m3.bad x → ms2.bad x ∨ H x = none) (g : ∀ n a, n < k0 → nth ms2.a n = some a → nth m3.a n = some a) : ∀ {l xs}, RDs G ms2 H l xs → belD k0 l = true → RDs G m3 H l xs
  | _, _, .nil, _ => .nil
  | .t x :: _, _, .cons (.t h) r, e => .cons (.t (h.cong b)) (r.out b g e)
  | .r n :: _, _, .cons (.r h) r, e => by
    unfold belD at e
    rw [Bool.and_eq_true, decide_eq_true_eq] at e
    exact .cons (.r (g _ _ e.1 h)) (r.out b g e.2)
theorem RFs.out {k0 : Nat} {m3 : Md} (b : ∀ x, m3.bad x → ms2.bad x ∨ H x = none) (g : ∀ n a, n < k0 → nth ms2.a n = some a → nth m3.a n = some a) {c} : ∀ {i l xs}, RFs G ms2 H c i l xs → belF k0 l = true → RFs G m3 H c i l xs
  | _, _, _, .nil, _ => .nil
  | _, none :: _, _, .no r, e => .no (r.out b g e)
  | _, some (.t x) :: _, _, .so (.t h) r, e => .so (.t (h.cong b)) (r.out b g e)
  | _, some (.r n) :: _, _, .so (.r h) r, e => by
    unfold belF at e
    rw [Bool.and_eq_true, decide_eq_true_eq] at e
    exact .so (.r (g _ _ e.1 h)) (r.out b g e.2)
theorem RO.out {k0 : Nat} {m3 : Md} (b : ∀ x, m3.bad x → ms2.bad x ∨ H x = none) (g : ∀ n a, n < k0 → nth ms2.a n = Option.some a → nth m3.a n = Option.some a) {o a} (h : RO G ms2 H o a) (e : belO k0 o = true) : RO G m3 H o a := by
  cases h with
  | lst h k => exact .lst h (k.cong b)
  | lsD h k => exact .lsD h (k.out b g e)
  | dct h k => exact .dct h (k.cong b)
  | ins h k z => exact .ins h (k.out b g e) z
theorem belS_nth {k : Nat} : ∀ {m : Nat} {S : Sto} {i o}, belS k m S = true → i < m → nth S i = some o → belO k o = true
  | 0, _, _, _, _, h, _ => by omega
  | m + 1, [], i, o, _, _, e => by cases i <;> cases e
  | m + 1, x :: r, 0, o, h, _, e => by
    unfold belS at h
    rw [Bool.and_eq_true] at h
    cases e
    exact h.1
  | m + 1, x :: r, i + 1, o, h, hi, e => by
    unfold belS at h
    rw [Bool.and_eq_true] at h
    exact belS_nth (m := m) (S := r) (i := i) h.2 (by omega) e
theorem nth_take {α : Type} {l : List α} {k i : Nat} (h : i < k) : nth (l.take k) i = nth l i := by
  rw [nth_eq, nth_eq, List.getElem?_take_of_lt h]
theorem Sim.out {S0 S} (s0 : Sim G ms H0 S0) (g : Grow ms H0 ms2 H) (s : Sim G ms2 H S) (h : belS S0.length S0.length S = true) : Sim G ms H (S.take S0.length) ∧ Grow ms H0 ms H := by
  obtain ⟨more, e, hm⟩ := g.pre
  have hl : S0.length ≤ S.length := by rw [← s.len, e, List.length_append, s0.len]; omega
  refine ⟨⟨?_, s0.nd, fun n o e1 => ?_, fun a ha => ?_⟩, ⟨⟨[], by simp⟩, rfl, g.keep, g.stay⟩⟩
  · rw [List.length_take, s0.len]; omega
  · have hn : n < S0.length := by
      have := nth_lt e1
      rw [List.length_take] at this
      omega
    rw [nth_take hn] at e1
    obtain ⟨a, e2, r⟩ := s.ob n o e1
    exact ⟨a, back_nth g (by rw [s0.len]; exact hn) e2, r.out (back_bad g) (fun n a h1 h2 => back_nth g (by rw [s0.len]; exact h1) h2) (belS_nth h hn e1)⟩
  · obtain ⟨u, eu⟩ := s0.trk a ha
    exact g.stay a u eu
/-- a new object of the store is none of the callers' marks -/
theorem new_out {S0 S} (s0 : Sim G ms H0 S0) (g : Grow ms H0 ms2 H) (s : Sim G ms2 H S) {j a} (hj : S0.length ≤ j) (h : nth ms2.a j = some a) : ¬ ms.bad a := by
  obtain ⟨more, e, hm⟩ := g.pre
  rw [e, nth_ge (by rw [s0.len]; exact hj)] at h
  have hn := hm a (mem_of_nth h)
  intro q
  rcases q with q | q
  · obtain ⟨u, eu⟩ := s0.trk a q
    rw [hn] at eu; cases eu
  · obtain ⟨u, eu⟩ := s0.tracked q
    rw [hn] at eu; cases eu
theorem frzK_ok {S0 S} (s0 : Sim G ms H0 S0) (g : Grow ms H0 ms2 H) (s : Sim G ms2 H S) : ∀ {l : List D} {xs : List V} {l' : List T}, RDs G ms2 H l xs → frzK S0.length S l = some l' → RTs G ms H l' xs
  | [], _, _, .nil, e => by
    simp only [frzK, Option.some.injEq] at e
    subst e; exact .nil
  | .t x :: r, _, _, .cons (.t h) k, e => by
    simp only [frzK] at e
    split at e
    · rename_i l1 e1
      cases e
      exact .cons (h.cong (back_bad g)) (frzK_ok s0 g s k e1)
    · cases e
  | .r n :: r, _, _, .cons (.r h) k, e => by
    simp only [frzK] at e
    split at e
    · cases e
    · rename_i hn
      have nb := new_out s0 g s (by omega) h
      split at e
      · rename_i x l1 e1 e2
        cases e
        obtain ⟨a, e3, ro⟩ := s.ob _ _ e1
        rw [h] at e3; cases e3
        cases ro with
        | lst q1 q2 => exact .cons (.lst q1 nb (q2.cong (back_bad g))) (frzK_ok s0 g s k e2)
      · rename_i x l1 e1 e2
        cases e
        obtain ⟨a, e3, ro⟩ := s.ob _ _ e1
        rw [h] at e3; cases e3
        cases ro with
        | dct q1 q2 => exact .cons (.dct q1 nb (q2.cong (back_bad g))) (frzK_ok s0 g s k e2)
      · cases e
theorem exitQ_ok {S0 S} (s0 : Sim G ms H0 S0) (g : Grow ms H0 ms2 H) (s : Sim G ms2 H S) {Q : Post} {d : D} {v : V} (r : RD G ms2 H d v) (q : exitQ S0.length Q d S) : ∃ d' S' ms', Q d' S' ∧ Grow ms H0 ms' H ∧ Sim G ms' H S' ∧ RD G ms' H d' v := by
  unfold exitQ at q
  cases hb : belS S0.length S0.length S with
  | false => rw [hb] at q; exact q.elim
  | true =>
    rw [hb] at q
    obtain ⟨s1, g1⟩ := s0.out g s hb
    simp only [br] at q
    split at q
    · cases r with
      | t r => exact ⟨_, _, ms, q, g1, s1, .t (r.cong (back_bad g))⟩
    · rename_i j
      cases r with
      | r hn =>
        by_cases hj : j < S0.length
        · rw [decide_eq_true hj] at q
          exact ⟨_, _, ms, q, g1, s1, .r (back_nth g (by rw [s0.len]; exact hj) hn)⟩
        · rw [decide_eq_false hj] at q
          have nb := new_out s0 g s (by omega) hn
          simp only at q
          split at q
          · rename_i l e
            obtain ⟨a, e3, ro⟩ := s.ob _ _ e
            rw [hn] at e3; cases e3
            cases ro with
            | lst q1 q2 => exact ⟨_, _, ms, q, g1, s1, .t (.lst q1 nb (q2.cong (back_bad g)))⟩
          · rename_i l e
            obtain ⟨a, e3, ro⟩ := s.ob _ _ e
            rw [hn] at e3; cases e3
            cases ro with
            | lsD q1 q2 =>
              split at q
              · rename_i l' e4
                exact ⟨_, _, ms, q, g1, s1, .t (.lst q1 nb (frzK_ok s0 g s q2 e4))⟩
              · exact q.elim
          · exact q.elim
theorem exitM_ok {S0 S} (s0 : Sim G ms H0 S0) (g : Grow ms H0 ms2 H) (s : Sim G ms2 H S) {Q : Post} {d : D} {v : V} (r : RD G ms2 H d v) (q : exitM S0.length Q d S) : ∃ d' S' ms', Q d' S' ∧ Grow ms H0 ms' H ∧ Sim G ms' H S' ∧ RD G ms' H d' v := by
  unfold exitM at q
  cases hb : belS S0.length S0.length S with
  | false => rw [hb] at q; exact q.elim
  | true =>
    rw [hb] at q
    obtain ⟨s1, g1⟩ := s0.out g s hb
    simp only [br] at q
    split at q
    · cases r with
      | t r => exact ⟨_, _, ms, q, g1, s1, .t (r.cong (back_bad g))⟩
    · rename_i j
      cases r with
      | r hn =>
        rename_i a
        by_cases hj : j < S0.length
        · rw [decide_eq_true hj] at q
          exact ⟨_, _, ms, q, g1, s1, .r (back_nth g (by rw [s0.len]; exact hj) hn)⟩
        · rw [decide_eq_false hj] at q
          simp only at q
          split at q
          · rename_i l e
            obtain ⟨a', e3, ro⟩ := s.ob _ _ e
            rw [hn] at e3; cases e3
            cases ro with
            | lst q1 q2 =>
              obtain ⟨more, em, hm⟩ := g.pre
              have hin : a ∈ more := by
                rw [em, nth_ge (by rw [s0.len]; omega)] at hn
                exact mem_of_nth hn
              have hlen : ms.a.length = (S.take S0.length).length := s1.len
              have bb : ∀ x, (⟨ms.f, ms.a ++ [a]⟩ : Md).bad x → ms2.bad x ∨ H x = none := fun x h => by
                rcases h with h | h
                · exact back_bad g x (.inl h)
                · rcases List.mem_append.mp h with h | h
                  · exact back_bad g x (.inr h)
                  · rw [List.mem_singleton.mp h]
                    exact .inl (.inr (mem_of_nth hn))
              have kk : ∀ n b, n < S0.length → nth ms2.a n = some b → nth (ms.a ++ [a]) n = some b := fun n b h1 h2 => by
                have := back_nth g (by rw [s0.len]; exact h1) h2
                rw [nth_app_lt (nth_lt this)]; exact this
              have nb := new_out s0 g s (by omega) hn
              refine ⟨_, _, ⟨ms.f, ms.a ++ [a]⟩, q, ⟨⟨[a], rfl, fun x hx => ?_⟩, rfl, g.keep, g.stay⟩, ⟨?_, ?_, fun n o e1 => ?_, s1.trk⟩, .r ?_⟩
              · rw [List.mem_singleton.mp hx]; exact hm a hin
              · show (ms.a ++ [a]).length = _
                rw [List.length_append, List.length_append, hlen]; rfl
              · show (ms.a ++ [a]).Nodup
                rw [List.nodup_append]
                refine ⟨s0.nd, by simp, fun x hx y hy z => nb (.inr ?_)⟩
                rw [← List.mem_singleton.mp hy, ← z]; exact hx
              · by_cases hn2 : n < (S.take S0.length).length
                · rw [nth_app_lt hn2] at e1
                  have h3 : n < S0.length := by rw [List.length_take] at hn2; omega
                  rw [nth_take h3] at e1
                  obtain ⟨b, e2, r⟩ := s.ob n o e1
                  exact ⟨b, kk n b h3 e2, r.out bb kk (belS_nth hb h3 e1)⟩
                · have hl2 := nth_lt e1
                  rw [List.length_append, List.length_singleton] at hl2
                  have : n = (S.take S0.length).length := by omega
                  subst this
                  rw [nth_app_len] at e1
                  cases e1
                  exact ⟨a, by show nth (ms.a ++ [a]) _ = _; rw [← hlen]; exact nth_app_len, .lst q1 (q2.cong bb)⟩
              · show nth (ms.a ++ [a]) S0.length = some a
                rw [← s0.len]; exact nth_app_len
          · exact q.elim
end
section
variable {p : Pg}
/-! ### from the text to the promises -/
/-- what is known of the text, by the places and names of p -/
structure Sta (p : Pg) : Prop where
  glob : ∀ g, p.nm.isG g = true → ∃ v u, p.mg (p.nm.gl g) = some u ∧ RelV v u ∧ ∀ ms H, RT p.G ms H (p.ge g) v
  fn : ∀ f, p.nm.isF f = true → p.mg (p.nm.fn f) = some (.ref (p.G.fad f)) ∧ PySem.W.keepIn p.G.K (.ref (p.G.fad f)) = true
  blt : ∀ x ∈ bltNames, p.mg x = none
  kf : ∀ f, p.G.kf f = true → p.nm.isF f = true
  nf : p.G.nf = p.nm.nf
  fnm : p.G.fnm = p.nm.fd
  cls : ∀ c, p.nm.isC c = true → Cls p.G.K (p.G.cad c) ∧ p.mg (p.nm.cl c) = some (.ref (p.G.cad c)) ∧ Mk p.G.K (p.G.cad c) (p.G.fad (p.nm.ini c)) ∧ p.nm.nf c ≤ 100 ∧
    (∀ i, i < p.nm.nf c → NoAttr p.G.K (p.G.cad c) (p.nm.fd c i)) ∧ (∀ i j, i < p.nm.nf c → j < p.nm.nf c → p.nm.fd c i = p.nm.fd c j → i = j)
  meth : ∀ f, p.nm.isM f = true → Meth p.G.K (p.G.cad (p.nm.mc f)) (p.nm.fn f) (p.G.fad f) ∧ ∀ i, i < p.nm.nf (p.nm.mc f) → p.nm.fd (p.nm.mc f) i ≠ p.nm.fn f
  txt : ∀ f, (p.nm.isF f = true ∨ p.nm.isM f = true) → ∃ (d : Fn) (st : Stmt) (x qual : Str) (fd : FuncData) (N ps : List Str), p.tab f = some d ∧ Fun p.G.K x qual st (p.G.fad f) fd ∧ FnScope N ps (defScope st) ∧ ps.length = d.np ∧ N.length = d.ns ∧
    mtSs p.nm N d.body (defScope st) (defBody st) = true ∧ Binds p.G.K fd ps []
theorem sl_start {G : Gx} {ms H} {N : List Str} {ds : List D} {vs : List V} {np ns : Nat} (r : RDs G ms H ds vs) (h1 : ds.length = np) (h2 : N.length = ns) : Sl G ms H (ds.map some ++ List.replicate (ns - np) none) (L2.start N vs) := by
  have hl := r.length
  subst h1 h2
  refine ⟨?_, fun i d e => ?_⟩
  · unfold L2.start
    simp [hl]
  · rw [nth_eq] at e
    by_cases hi : i < ds.length
    · rw [List.getElem?_append_left (by simpa using hi), List.getElem?_map] at e
      cases e1 : ds[i]? with
      | none => rw [e1] at e; cases e
      | some d' =>
        rw [e1] at e; cases e
        obtain ⟨v, e2, r2⟩ := r.get e1
        refine ⟨v, ?_, r2⟩
        unfold L2.start
        rw [List.getElem?_append_left (by simp; omega), List.getElem?_map, e2]; rfl
    · rw [List.getElem?_append_right (by simpa using hi)] at e
      rw [List.getElem?_replicate] at e
      split at e <;> cases e
theorem call0 (s : Sta p) : ∀ f, (p.nm.isF f = true ∨ p.nm.isM f = true) → ∃ fd ps, FnOk p.P p.w p.G.K p.mg p.base (L2.CX p.P p.w) (2 * 0) (p.G.fad f) fd ps (spF p 0 f) ∧ L2.Binds p.G.K fd ps [] := fun f hf => by
  obtain ⟨d, st, x, qual, fd, N, ps, _, _, _, _, _, _, hb⟩ := s.txt f hf
  refine ⟨fd, ps, ⟨fun vs H Q E h => ?_, fun A outer s H args us vs Q E _ _ _ _ h => ?_⟩, hb⟩
  · obtain ⟨_, _, _, _, _, _, _, _, _, _, h, _⟩ := h
    exact h.elim
  · obtain ⟨_, _, _, _, _, _, _, _, _, _, h, _⟩ := h
    exact h.elim
theorem kn_out {S0 : Sto} {ms : Md} {H : Hp} {md : Nat} {Qi : Post} {Q : VK} (sm : Sim p.G ms H S0) (hQ : ∀ dd S' v ms' H', Qi dd S' → Grow ms H ms' H' → Sim p.G ms' H' S' → RD p.G ms' H' dd v → Q v H') :
    Kle (knF md S0.length Qi) (knO p.G { nx := fun _ H' => Q .non H', rt := Q } ms H) := by
  unfold knF
  split
  · refine ⟨fun σI S q σ' ms' H' g s sl => ?_, fun d S q v ms' H' g s r => ?_, fun _ _ q => q.elim, fun _ _ q => q.elim⟩
    · obtain ⟨d', S', m', q', g', s', r'⟩ := exitQ_ok sm g s (.t .non) q
      exact hQ d' S' _ m' H' q' g' s' r'
    · obtain ⟨d', S', m', q', g', s', r'⟩ := exitQ_ok sm g s r q
      exact hQ d' S' _ m' H' q' g' s' r'
  · refine ⟨fun σI S q σ' ms' H' g s sl => ?_, fun d S q v ms' H' g s r => ?_, fun _ _ q => q.elim, fun _ _ q => q.elim⟩
    · obtain ⟨d', S', m', q', g', s', r'⟩ := exitM_ok sm g s (.t .non) q
      exact hQ d' S' _ m' H' q' g' s' r'
    · obtain ⟨d', S', m', q', g', s', r'⟩ := exitM_ok sm g s r q
      exact hQ d' S' _ m' H' q' g' s' r'
  · exact ⟨fun σI S q σ' ms' H' g s sl => hQ _ _ _ ms' H' q g s (.t .non), fun d S q v ms' H' g s r => hQ _ _ _ ms' H' q g s r, fun _ _ q => q.elim, fun _ _ q => q.elim⟩
theorem one_ok {n f : Nat} {d : Fn} {st : Stmt} {x qual : Str} {fd : FuncData} {N ps : List Str} (fx : Fct p n) (ht : p.tab f = some d) (F : Fun p.G.K x qual st (p.G.fad f) fd) (S : FnScope N ps (defScope st)) (hp : ps.length = d.np) (hn : N.length = d.ns)
    (hm : mtSs p.nm N d.body (defScope st) (defBody st) = true) : FnOk p.P p.w p.G.K p.mg p.base (L2.CX p.P p.w) (2 * (n + 1)) (p.G.fad f) fd ps (spF p (n + 1) f) := by
  show FnOk p.P p.w p.G.K p.mg p.base (L2.CX p.P p.w) (2 * n + 1 + 1) (p.G.fad f) fd ps (spF p (n + 1) f)
  refine F.okX S (fun vs H Q E h => ?_) fun cdv A outer s H vs Q E hr h => ?_
  · obtain ⟨d', ms, S, ds, Qi, Ei, e1, e2, _, r, _⟩ := h
    rw [ht] at e1; cases e1
    rw [← r.length, hp]; exact e2
  · obtain ⟨d', ms, S0, ds, Qi, Ei, e1, e2, sm, r, h, hQ, hE⟩ := h
    rw [ht] at e1; cases e1
    unfold cfn at h
    rw [ht] at h
    obtain ⟨_, h⟩ := h
    refine ⟨lSs p n ⟨some (ms, H), none⟩ d.body (exitX S0.length Ei), ?_, ?_⟩
    · refine ssOk fx d.body _ (defScope st) _ _ (defBody st) ⟨rfl, rfl, rfl, rfl, rfl, S.nd, rfl, hr, fun _ h => h, fun _ h => ⟨h, .inl rfl⟩, fun _ h => h, S.kind⟩ rfl ?_ (passes_of rfl) rfl hm
      refine Takes.imp (takes_of rfl rfl rfl rfl) fun c dx σ H' w => ?_
      obtain ⟨ms2, S2, c2, a2, g2, s2, _, rfl, rx, q⟩ := w
      have g2 := g2 ms H rfl
      unfold exitX at q
      cases hb : belS S0.length S0.length S2 with
      | false => rw [hb] at q; exact q.elim
      | true =>
        rw [hb] at q
        obtain ⟨s3, g3⟩ := sm.out g2 s2 hb
        refine hE c2 a2 _ dx ms H' q g3 s3 ?_
        cases rx with
        | no h => exact .no h
        | so h1 h2 h3 => exact .so h1 h2 (h3.cong (back_bad g2))
    · refine ⟨ms, S0, _, ⟨fun m0 H0 e => ?_, fun _ e => (by cases e), sm, sl_start (N := N) r e2 hn⟩, mSs d.body (kn_out sm hQ) h⟩
      cases e; exact .refl
theorem callN {n : Nat} (s : Sta p) (fx : Fct p n) : ∀ f, (p.nm.isF f = true ∨ p.nm.isM f = true) → ∃ fd ps, FnOk p.P p.w p.G.K p.mg p.base (L2.CX p.P p.w) (2 * (n + 1)) (p.G.fad f) fd ps (spF p (n + 1) f) ∧ L2.Binds p.G.K fd ps [] := fun f hf => by
  obtain ⟨d, st, x, qual, fd, N, ps, ht, F, S, hp, hn, hm, hb⟩ := s.txt f hf
  exact ⟨fd, ps, one_ok fx ht F S hp hn hm, hb⟩
theorem fct (s : Sta p) : ∀ n, Fct p n
  | 0 => ⟨s.glob, s.fn, call0 s, s.blt, s.kf, s.nf, s.fnm, s.cls, s.meth⟩
  | n + 1 => ⟨s.glob, s.fn, callN s (fct s n), s.blt, s.kf, s.nf, s.fnm, s.cls, s.meth⟩
end
theorem cfn_in {tab : Nat → Option Fn} {ge : Nat → T} {up : Nat → List Ty} {n f : Nat} {d : Fn} {ds : List D} {S : Sto} {Q : Post} {E : XPost} (h : tab f = some d) (q : wpF (cfn tab ge up n) ge up d ds S Q E) : cfn tab ge up (n + 1) f ds S Q E := by
  unfold cfn
  rw [h]
  exact q
end MP

set_option Elab.async false
set_option linter.all false
set_option maxRecDepth 100000
namespace TX
open MP PySem L2 TL PyProof.Rows NumText
/-! ### the texts of whole numbers -/
def itx (i : Int) : Str := Str.ofString (toString i)
theorem tl_nat (n : Nat) : tl (itx (n : Int)) = numL n := tl_num n
theorem itx_neg (n : Nat) : itx (Int.negSucc n) = ⟨(45 :: numL (n + 1)).toArray⟩ := by
  refine ext_tl ?_
  have e : toString (Int.negSucc n) = "-" ++ toString ((n + 1 : Nat) : Int) := rfl
  unfold itx
  rw [e, tl_ofString, String.toList_append, List.map_append, tl_mk]
  have := tl_num (n + 1)
  rw [tl_ofString] at this
  rw [this]; rfl
theorem tl_itx (i : Int) : tl (itx i) = if i < 0 then 45 :: numL i.natAbs else numL i.natAbs := by
  cases i with
  | ofNat n =>
    rw [if_neg (by simp)]
    exact tl_nat n
  | negSucc n =>
    rw [if_pos (Int.negSucc_lt_zero n), itx_neg, tl_mk]; rfl
def NB (i : Int) : Prop := i.natAbs < 10 ^ 500
theorem NB.len {i : Int} (h : NB i) : (numL i.natAbs).length ≤ 500 := numL_len (by decide) h
theorem NB.log {i : Int} (h : NB i) : i.natAbs.log2 < 1920 := by
  unfold NB at h
  by_cases h0 : i.natAbs = 0
  · rw [h0]; decide
  · rw [Nat.log2_lt h0]
    exact Nat.lt_trans h (by decide +kernel)
theorem itx_len {i : Int} (h : NB i) : (itx i).length ≤ 501 := by
  rw [len_tl, tl_itx]
  have := h.len
  split
  · simp; omega
  · omega
theorem int_itx {i : Int} (h : NB i) : intText? (itx i) = some i := by
  have hl := itx_len h
  cases i with
  | ofNat n =>
    have := intText_digits (x := itx (Int.ofNat n)) (by rw [show (itx (Int.ofNat n)).cps.toList = numL n from tl_nat n]; exact numL_digits n) (by rw [show (itx (Int.ofNat n)).cps.toList = numL n from tl_nat n]; exact numL_ne n) (by omega)
    rw [this, show (itx (Int.ofNat n)).cps.toList = numL n from tl_nat n, numL_val]; rfl
  | negSucc n =>
    have e : (itx (Int.negSucc n)).cps.toList = 45 :: numL (n + 1) := by rw [itx_neg]
    have := intText_neg (x := itx (Int.negSucc n)) e (numL_digits _) (numL_ne _) (by omega)
    rw [this, numL_val]; rfl
theorem itx_free {i : Int} {s : Nat} (h : s < 45 ∨ (45 < s ∧ s < 48) ∨ 57 < s) : s ∉ tl (itx i) := by
  rw [tl_itx]
  have h2 : s ∉ numL i.natAbs := numL_free (by omega)
  split
  · intro q
    rcases List.mem_cons.mp q with q | q
    · omega
    · exact h2 q
  · exact h2
theorem okS {x : Str} (h : ∀ c ∈ tl x, c < 0x110000) : strOk x = true := by
  show x.cps.all (· < 0x110000) = true
  rw [Array.all_eq_true']
  intro c hc
  exact decide_eq_true (h c (by simpa using hc))
theorem itx_small {i : Int} : ∀ c ∈ tl (itx i), c < 128 := by
  rw [tl_itx]
  intro c hc
  have := numL_digits i.natAbs
  split at hc
  · rcases List.mem_cons.mp hc with q | q
    · omega
    · have := this c q; omega
  · have := this c hc; omega
/-- a number's text: «top» or «top/bottom» -/
def txt (a b : Int) : Str := if b = 1 then itx a else itx a ++ Str.ofString "/" ++ itx b
theorem slash : tl (Str.ofString "/") = [47] := by rw [tl_ofString]; rfl
theorem txt_small {a b : Int} : ∀ c ∈ tl (txt a b), c < 128 := by
  unfold txt
  split
  · exact itx_small
  · rw [tl_append, tl_append, slash]
    intro c hc
    simp only [List.mem_append, List.mem_singleton] at hc
    rcases hc with (h | h) | h
    · exact itx_small c h
    · omega
    · exact itx_small c h
theorem txt_ok {a b : Int} : strOk (txt a b) = true := okS fun c h => by have := txt_small c h; omega
theorem txt_len {a b : Int} (ha : NB a) (hb : NB b) : (txt a b).length ≤ 1003 := by
  unfold txt
  have h1 := itx_len ha
  have h2 := itx_len hb
  split
  · omega
  · rw [len_tl] at h1 h2
    rw [len_tl, tl_append, tl_append, List.length_append, List.length_append, slash]
    simp only [List.length_singleton]; omega
theorem part_txt {a b : Int} : Txt.partition (txt a b) (Str.ofString "/") = if b = 1 then (itx a, Str.empty, Str.empty) else (itx a, Str.ofString "/", itx b) := by
  unfold txt
  split
  · exact partition_none slash (itx_free (by omega))
  · exact partition_app slash (itx_free (by omega))
/-! ### digits -/
theorem fig_in {c : Nat} (h : 48 ≤ c) (h' : c ≤ 57) : (!(Builtin.Str.occurrences (Str.ofString "0123456789") ⟨#[c]⟩ 0 (Str.ofString "0123456789").length 1).isEmpty) = true := by
  have : c = 48 ∨ c = 49 ∨ c = 50 ∨ c = 51 ∨ c = 52 ∨ c = 53 ∨ c = 54 ∨ c = 55 ∨ c = 56 ∨ c = 57 := by omega
  rcases this with h | h | h | h | h | h | h | h | h | h <;> subst h <;> decide +kernel
theorem numL_head (n : Nat) (h : n ≠ 0) : ∃ c r, numL n = c :: r ∧ 49 ≤ c ∧ c ≤ 57 := by
  induction n using Nat.strongRecOn with
  | _ n ih =>
    by_cases h10 : n < 10
    · exact ⟨48 + n, [], numL_lt h10, by omega, by omega⟩
    · obtain ⟨c, r, e, h1, h2⟩ := ih (n / 10) (by omega) (by omega)
      exact ⟨c, r ++ [48 + n % 10], by rw [numL_step (by omega), e]; rfl, h1, h2⟩
theorem zero_txt : tl (Str.ofString "0") = [48] := by rw [tl_ofString]; rfl
theorem nat_zero (n : Nat) : (itx (n : Int) = Str.ofString "0") ↔ n = 0 := by
  constructor
  · intro h
    have := congrArg tl h
    rw [tl_nat, zero_txt] at this
    by_cases h0 : n = 0
    · exact h0
    · obtain ⟨c, r, e, h1, h2⟩ := numL_head n h0
      rw [e] at this
      cases this
      omega
  · intro h; subst h; rfl
theorem txt_inj {a b c d : Int} (h : txt a b = txt c d) : a = c ∧ b = d := by
  have hp := congrArg (fun x => Txt.partition x (Str.ofString "/")) h
  simp only [part_txt] at hp
  have inj : ∀ {i j : Int}, itx i = itx j → i = j := fun {i j} e => by
    have e := congrArg tl e
    rw [tl_itx, tl_itx] at e
    by_cases hi : i < 0 <;> by_cases hj : j < 0
    · rw [if_pos hi, if_pos hj] at e
      have := numL_inj (List.cons.inj e).2
      omega
    · rw [if_pos hi, if_neg hj] at e
      have := numL_digits j.natAbs 45 (by rw [← e]; simp)
      omega
    · rw [if_neg hi, if_pos hj] at e
      have := numL_digits i.natAbs 45 (by rw [e]; simp)
      omega
    · rw [if_neg hi, if_neg hj] at e
      have := numL_inj e
      omega
  have hs : Str.ofString "/" ≠ Str.empty := by decide
  by_cases hb : b = 1 <;> by_cases hd : d = 1
  · rw [if_pos hb, if_pos hd] at hp
    exact ⟨inj (Prod.mk.inj hp).1, by rw [hb, hd]⟩
  · rw [if_pos hb, if_neg hd] at hp
    exact absurd (Prod.mk.inj (Prod.mk.inj hp).2).1.symm hs
  · rw [if_neg hb, if_pos hd] at hp
    exact absurd (Prod.mk.inj (Prod.mk.inj hp).2).1 hs
  · rw [if_neg hb, if_neg hd] at hp
    exact ⟨inj (Prod.mk.inj hp).1, inj (Prod.mk.inj (Prod.mk.inj hp).2).2⟩
end TX

set_option Elab.async false
set_option linter.all false
set_option maxRecDepth 100000
namespace MP
open PySem L2
/-! ### loops in the evaluator -/
theorem compL_pure {step : D → Sto → (Option T → Sto → Prop) → Prop} (f : T → Option T) : ∀ {l acc : List T} {S : Sto} {Q : List T → Sto → Prop}, (∀ x ∈ l, ∀ k, k (f x) S → step (.t x) S k) → Q (acc ++ l.filterMap f) S → compL none step l acc S Q
  | [], acc, S, Q, _, q => by
    unfold compL grd
    simpa using q
  | x :: r, acc, S, Q, h, q => by
    unfold compL grd
    refine h x (by simp) _ ?_
    cases e : f x with
    | none =>
      refine compL_pure f (fun y hy => h y (by simp [hy])) ?_
      rw [List.filterMap_cons, e] at q
      exact q
    | some y =>
      refine compL_pure f (fun z hz => h z (by simp [hz])) ?_
      rw [List.filterMap_cons, e] at q
      simpa using q
theorem fm_true {α : Type} (l : List α) : l.filterMap (fun _ => some (T.bl true)) = (List.replicate l.length true).map T.bl := by
  induction l with
  | nil => rfl
  | cons x r ih => rw [List.filterMap_cons, ih]; rfl
theorem all_true (n : Nat) : (List.replicate n true).all id = true := by simp
theorem atI_zero {α : Type} (x : α) (r : List α) : atI (x :: r) 0 = some x := by
  have h : ixN (x :: r).length 0 = some 0 := by
    unfold ixN
    rw [if_pos (Int.le_refl 0), if_pos (by rw [List.length_cons]; omega)]
    rfl
  unfold atI
  rw [h]; rfl
theorem for_inv0 {tab : Nat → Option Fn} {ge : Nat → T} {up : Nat → List Ty} {n : Nat} {t : Tg} {b : Sms} {E : XPost} {K : Kn} (I : List T → Sg → Sto → Prop)
    (hs : ∀ x r σ S, I (x :: r) σ S → wpG (cfn tab ge up n) ge up t E (.t x) σ S fun σ3 S3 => wpSs (cfn tab ge up n) ge up b E σ3 S3 ⟨I r, K.rt, K.nx, I r⟩) (he : ∀ σ S, I [] σ S → K.nx σ S) :
    ∀ {l : List T} {σ : Sg} {S : Sto}, I l σ S → forL none (fun d σ2 S2 K2 => wpG (cfn tab ge up n) ge up t E d σ2 S2 fun σ3 S3 => wpSs (cfn tab ge up n) ge up b E σ3 S3 K2) l σ S K
  | [], σ, S, h => by
    unfold forL grd
    exact he σ S h
  | x :: r, σ, S, h => by
    unfold forL grd
    refine wpG_mono (cfn_mono n) t (fun _ _ _ q => q) (fun σ3 S3 q => ?_) (hs x r σ S h)
    refine wpSs_mono (cfn_mono n) b (fun _ _ _ q => q) ?_ q
    exact ⟨fun σ' S' q => for_inv0 I hs he q, fun _ _ q => q, fun _ _ q => q, fun σ' S' q => for_inv0 I hs he q⟩
theorem for_inv {tab : Nat → Option Fn} {ge : Nat → T} {up : Nat → List Ty} {n : Nat} {t : Tg} {b : Sms} {E : XPost} {K : Kn} (I : List T → Sg → Sto → Prop) {l : List T} {σ : Sg} {S : Sto}
    (hs : ∀ x r σ S, I (x :: r) σ S → wpG (cfn tab ge up n) ge up t E (.t x) σ S fun σ3 S3 => wpSs (cfn tab ge up n) ge up b E σ3 S3 ⟨I r, K.rt, K.nx, I r⟩) (he : ∀ σ S, I [] σ S → K.nx σ S) (h0 : I l σ S) :
    Bx (forL none (fun d σ2 S2 K2 => wpG (cfn tab ge up n) ge up t E d σ2 S2 fun σ3 S3 => wpSs (cfn tab ge up n) ge up b E σ3 S3 K2) l σ S K) := ⟨for_inv0 I hs he h0⟩
theorem callS_pure {cf : CF} {f : Nat} {ds : List D} {S : Sto} {Q : Post} {E : XPost} (h : refsD ds [] = []) (q : cf f ds [] (fun v S' => Q (shD S.length v) (apS S S')) (fun c a S' => E c a (apS S S'))) : Bx (callS cf f ds S Q E) := by
  refine ⟨?_⟩
  unfold callS
  rw [h]
  exact q
theorem hasN_self (i : Nat) : hasN [i] i = true := by unfold hasN; rw [if_pos rfl]
theorem posN_self (i : Nat) : posN [i] i = 0 := by unfold posN; rw [if_pos rfl]
/-- a call that hands out one object, a list of data -/
theorem callS_lst {cf : CF} {f i : Nat} {ts : List T} {S : Sto} {l : List T} {Q : Post} {E : XPost} (hi : nth S i = some (.lst l))
    (q : cf f (.r 0 :: ts.map D.t) [.lst l] (fun v S' => Q (bakD [i] S.length v) (bakS [i] S.length [i] S S')) (fun c a S' => E c a (bakS [i] S.length [i] S S'))) : Bx (callS cf f (.r i :: ts.map D.t) S Q E) := by
  refine ⟨?_⟩
  have h1 : ∀ (ts : List T) (acc : List Nat), refsD (ts.map D.t) acc = acc := by
    intro ts
    induction ts with
    | nil => intro acc; rfl
    | cons t r ih => intro acc; exact ih acc
  have h2 : refsD (.r i :: ts.map D.t) [] = [i] := by
    show refsD (ts.map D.t) (addR [] i) = [i]
    rw [h1]; rfl
  have h3 : reachL S [i] [i] = [i] := by
    unfold reachL
    rw [hi]
    rfl
  have h4 : ∀ ts : List T, refsInD [i] (ts.map D.t) = true := by
    intro ts
    induction ts with
    | nil => rfl
    | cons t r ih => exact ih
  have h5 : ∀ ts : List T, renL [i] (ts.map D.t) = ts.map D.t := by
    intro ts
    induction ts with
    | nil => rfl
    | cons t r ih =>
      show renD [i] (.t t) :: renL [i] (r.map D.t) = _
      rw [ih]; rfl
  have h6 : rOk [i] (.r i :: ts.map D.t) S = true := by
    unfold rOk
    have a : nodN [i] = true := rfl
    have b : refsInD [i] (.r i :: ts.map D.t) = true := by
      show (hasN [i] i && refsInD [i] (ts.map D.t)) = true
      rw [hasN_self, h4]; rfl
    have c : subOk [i] S [i] = true := by
      unfold subOk
      rw [hi]; rfl
    rw [a, b, c]; rfl
  have h7 : renL [i] (.r i :: ts.map D.t) = .r 0 :: ts.map D.t := by
    show D.r (posN [i] i) :: renL [i] (ts.map D.t) = _
    rw [h5, posN_self]
  have h8 : subS [i] S [i] = [.lst l] := by
    unfold subS
    rw [hi]; rfl
  unfold callS
  rw [h2]
  show br (rOk (reachL S [i] [i]) (.r i :: ts.map D.t) S) _ False
  simp only [h3, h6, h7, h8]
  exact q
theorem nth_set_eq {α : Type} {l : List α} {i : Nat} {x y : α} (h : nth l i = some y) : nth (l.set i x) i = some x := nth_set_self (nth_lt h)
theorem nth_new {α : Type} {l : List α} {x : α} : nth (l ++ [x]) l.length = some x := nth_app_len
theorem nth_old {α : Type} {l k : List α} {i : Nat} {y : α} (h : nth l i = some y) : nth (l ++ k) i = some y := by rw [nth_app_lt (nth_lt h)]; exact h
theorem get_at {d : Nat} {S : Sto} {l : List (Key × T)} {x : Str} {y : D} {Q : Post} (hd : nth S d = some (.dct l)) (q : match kget l (.inr x) with
    | some v => Q (.t v) S
    | none => Q y S) : Bx (meD .get (.r d) [.t (.str x), y] S Q) := by
  refine ⟨?_⟩
  unfold meD
  have e : rdT (.r d) S = some (.dct l) := by simp only [rdT, hd]
  simp only [e, keyT]
  exact q
theorem tyGet {d : Nat} {S : Sto} {l : List (Key × T)} (hd : nth S d = some (.dct l)) : tyM .get (.r d) S = true := by
  unfold tyM
  have e : rdT (.r d) S = some (.dct l) := by simp only [rdT, hd]
  simp only [e]
theorem put_at {d : Nat} {S : Sto} {l : List (Key × T)} {x : Str} {y : T} {k : Sto → Prop} (hd : nth S d = some (.dct l)) (hz : l.length < 16777216) (q : k (S.set d (.dct (kput l (.inr x) y)))) : Bx (setD (.r d) (.t (.str x)) (.t y) S k) := by
  refine ⟨?_⟩
  unfold setD
  simp only [hd, keyT]
  exact ⟨hz, q⟩
theorem kget_mem {l : List (Key × T)} {k : Key} {v : T} (h : kget l k = some v) : (k, v) ∈ l := by
  unfold kget at h
  cases e : l.find? fun kv => decide (kv.1 = k) with
  | none => rw [e] at h; cases h
  | some kv =>
    rw [e] at h
    cases h
    have h1 := List.find?_some e
    have h2 := List.mem_of_find?_eq_some e
    have h3 : kv.1 = k := of_decide_eq_true h1
    rw [← h3]; exact h2
theorem kput_mem {l : List (Key × T)} {k : Key} {v : T} {kv : Key × T} (h : kv ∈ kput l k v) : kv = (k, v) ∨ kv ∈ l := by
  unfold kput at h
  split at h
  · obtain ⟨q, hq, e⟩ := List.mem_map.mp h
    split at e
    · rename_i hk
      exact .inl (by rw [← e, hk])
    · exact .inr (by rw [← e]; exact hq)
  · rcases List.mem_append.mp h with h | h
    · exact .inr h
    · exact .inl (List.mem_singleton.mp h)
theorem kput_len {l : List (Key × T)} {k : Key} {v : T} : (kput l k v).length ≤ l.length + 1 := by
  unfold kput
  split
  · rw [List.length_map]; omega
  · rw [List.length_append]; exact Nat.le_refl _
theorem rngC_mem {lo c : Int} {n : Nat} {y : T} (h : y ∈ rngC lo c n) : ∃ i : Nat, i < n ∧ y = .int (lo + (i : Int) * c) := by
  unfold rngC at h
  obtain ⟨i, hi, e⟩ := List.mem_map.mp h
  exact ⟨i, List.mem_range.mp hi, e.symm⟩
theorem rngL_mem {lo : Int} {n : Nat} {y : T} (h : y ∈ rngL lo n) : ∃ i : Nat, i < n ∧ y = .int (lo + (i : Int)) := by
  unfold rngL at h
  obtain ⟨i, hi, e⟩ := List.mem_map.mp h
  exact ⟨i, List.mem_range.mp hi, e.symm⟩
end MP

set_option Elab.async false
set_option linter.all false
set_option maxRecDepth 100000
namespace K06
open MP PySem L2
def b_law : Sms := (.cons (.for_ (.var 1) (.range (.cons (.int 0) (.cons (.bi false .max2 (.cons (.int 1) (.cons (.bi false .min2 (.cons (.bi false .len (.cons (.var 0) .nil)) (.cons (.int 32) .nil))) .nil))) (.cons (.int 2) .nil)))) (.cons (.asg (.var 2) (.call 9 (.cons (.var 0) (.cons (.var 1) .nil)))) (.cons (.asg (.var 3) (.lst true .nil)) (.cons (.for_ (.var 4) (.range (.cons (.int 3) .nil)) (.cons (.asg (.var 6) (.bin false .sub (.call 7 (.cons (.var 2) (.cons (.bin false .add (.bin false .mul (.int 2) (.bin false .pow (.int 10) (.int 6))) (.int 1)) .nil))) (.bin false .pow (.int 10) (.int 6)))) (.cons (.expr (.met .append (.var 3) (.cons (.call 8 (.cons (.var 6) (.cons (.bin false .add (.int 1) (.call 7 (.cons (.var 2) (.cons (.int 100) .nil)))) .nil))) .nil))) (.cons (.ite (.cmp (.call 7 (.cons (.var 2) (.cons (.int 4) .nil))) (.one .eq (.int 0))) (.cons (.asg (.ix (.var 3) (.var 4)) (.call 8 (.cons (.bin false .add (.bin false .mul (.var 6) (.int 999)) (.var 4)) (.cons (.bin false .add (.int 1) (.call 7 (.cons (.var 2) (.cons (.bin false .pow (.int 10) (.int 6)) .nil)))) .nil)))) .nil) .nil) .nil)))) (.cons (.ite (.bool true (.cons (.not (.call 6 (.cons (.ix (.var 3) (.int 0)) (.cons (.ix (.var 3) (.int 1)) (.cons (.ix (.var 3) (.int 2)) .nil))))) (.cons (.not (.call 6 (.cons (.ix (.var 3) (.int 2)) (.cons (.ix (.var 3) (.int 2)) (.cons (.ix (.var 3) (.int 0)) .nil))))) .nil))) (.cons (.ret (.bl false)) .nil) .nil) (.cons (.for_ (.var 5) (.ex (.bin false .add (.var 3) (.lst false (.cons (.call 2 (.cons (.ix (.var 3) (.int 0)) (.cons (.ix (.var 3) (.int 1)) .nil))) (.cons (.call 1 (.cons (.ix (.var 3) (.int 1)) (.cons (.ix (.var 3) (.int 2)) .nil))) .nil))))) (.cons (.ite (.bool true (.cons (.not (.call 5 (.cons (.var 5) .nil))) (.cons (.cmp (.call 3 (.cons (.call 4 (.cons (.var 5) .nil)) .nil)) (.one .ne (.var 5))) .nil))) (.cons (.ret (.bl false)) .nil) .nil) .nil)) .nil)))))) (.cons (.ret (.bl true)) .nil))
def d_law : Fn := ⟨1, 7, 0, b_law⟩
def b_multiplied : Sms := (.cons (.ret (.call 8 (.cons (.bin false .mul (.ix (.var 0) (.int 0)) (.ix (.var 1) (.int 0))) (.cons (.bin false .mul (.ix (.var 0) (.int 1)) (.ix (.var 1) (.int 1))) .nil)))) .nil)
def d_multiplied : Fn := ⟨2, 2, 0, b_multiplied⟩
def b_added : Sms := (.cons (.ret (.call 8 (.cons (.bin false .add (.bin false .mul (.ix (.var 0) (.int 0)) (.ix (.var 1) (.int 1))) (.bin false .mul (.ix (.var 1) (.int 0)) (.ix (.var 0) (.int 1)))) (.cons (.bin false .mul (.ix (.var 0) (.int 1)) (.ix (.var 1) (.int 1))) .nil)))) .nil)
def d_added : Fn := ⟨2, 2, 0, b_added⟩
def b_read_number : Sms := (.cons (.ite (.not (.isi (.var 0) [.str])) (.cons .dead .nil) .nil) (.cons (.asg (.var 1) (.call 10 (.cons (.var 0) .nil))) (.cons (.ite (.cmp (.var 1) (.one .is .non)) (.cons .dead .nil) .nil) (.cons (.ret (.var 1)) .nil))))
def d_read_number : Fn := ⟨1, 2, 0, b_read_number⟩
def b_show_number : Sms := (.cons (.ite (.cmp (.ix (.var 0) (.int 1)) (.one .eq (.int 1))) (.cons (.ret (.bi false .str (.cons (.ix (.var 0) (.int 0)) .nil))) .nil) .nil) (.cons (.ret (.bin false .add (.bin false .add (.bi false .str (.cons (.ix (.var 0) (.int 0)) .nil)) (.str "/")) (.bi false .str (.cons (.ix (.var 0) (.int 1)) .nil)))) .nil))
def d_show_number : Fn := ⟨1, 1, 0, b_show_number⟩
def b_is_number : Sms := (.cons (.ite (.bool true (.cons (.not (.isi (.var 0) [.tuple])) (.cons (.cmp (.bi false .len (.cons (.var 0) .nil)) (.one .ne (.int 2))) (.cons (.not (.bi false .all (.cons (.comp false [1] (.var 1) (.ex (.var 0)) .no (.call 12 (.cons (.var 1) .nil))) .nil))) .nil)))) (.cons (.ret (.bl false)) .nil) .nil) (.cons (.ret (.bool false (.cons (.cmp (.ix (.var 0) (.int 1)) (.one .ge (.int 1))) (.cons (.cmp (.call 11 (.cons (.ix (.var 0) (.int 0)) (.cons (.ix (.var 0) (.int 1)) .nil))) (.one .eq (.int 1))) .nil)))) .nil))
def d_is_number : Fn := ⟨1, 2, 0, b_is_number⟩
def b__law_right : Sms := (.cons (.ite (.bool true (.cons (.not (.call 15 (.cons (.var 0) (.cons (.var 1) (.cons (.var 2) .nil))))) (.cons (.not (.call 14 (.cons (.var 0) (.cons (.var 1) .nil)))) .nil))) (.cons (.ret (.bl false)) .nil) .nil) (.cons (.ret (.call 13 (.cons (.var 0) (.cons (.var 1) (.cons (.var 2) .nil))))) .nil))
def d__law_right : Fn := ⟨3, 3, 0, b__law_right⟩
def b__law_take : Sms := (.cons (.asg (.tup (.cons (.ix (.var 0) (.int 0)) (.cons (.var 2) .nil))) (.bi false .divmod (.cons (.ix (.var 0) (.int 0)) (.cons (.var 1) .nil)))) (.cons (.ret (.var 2)) .nil))
def d__law_take : Fn := ⟨2, 3, 0, b__law_take⟩
def b_number : Sms := (.cons (.ite (.cmp (.var 1) (.one .eq (.int 0))) (.cons .dead .nil) .nil) (.cons (.asg (.var 2) (.call 11 (.cons (.var 0) (.cons (.var 1) .nil)))) (.cons (.ite (.cmp (.var 1) (.one .lt (.int 0))) (.cons (.asg (.var 2) (.bin false .sub (.int 0) (.var 2))) .nil) .nil) (.cons (.ret (.tup (.cons (.bin false .fdiv (.var 0) (.var 2)) (.cons (.bin false .fdiv (.var 1) (.var 2)) .nil)))) .nil))))
def d_number : Fn := ⟨2, 3, 0, b_number⟩
def b__law_pack : Sms := (.cons (.asg (.var 2) (.int 0)) (.cons (.for_ (.var 3) (.ex (.lst false (.cons (.bin false .add (.var 1) (.int 1)) (.cons (.var 1) .nil)))) (.cons (.asg (.var 2) (.bin false .add (.bin false .mul (.var 2) (.bin false .pow (.int 10) (.int 60))) (.call 16 (.cons (.ix (.bin false .add (.sl false (.var 0) (.so (.var 3)) (.so (.bin false .add (.var 3) (.int 1)))) (.lst false (.cons (.bin false .add (.bin false .mul (.int 7907) (.var 3)) (.int 53)) .nil))) (.int 0)) .nil)))) .nil)) (.cons (.ret (.lst true (.cons (.var 2) .nil))) .nil)))
def d__law_pack : Fn := ⟨2, 4, 1, b__law_pack⟩
def b_number_in : Sms := (.cons (.asg (.tup (.cons (.var 1) (.cons (.var 2) (.cons (.var 3) .nil)))) (.met .partition (.var 0) (.cons (.str "/") .nil))) (.cons (.asg (.var 4) (.var 1)) (.cons (.ite (.cmp (.sl false (.var 1) .no (.so (.int 1))) (.one .eq (.str "-"))) (.cons (.asg (.var 4) (.sl false (.var 1) (.so (.int 1)) .no)) .nil) .nil) (.cons (.ite (.bool true (.cons (.not (.call 17 (.cons (.var 4) .nil))) (.cons (.cmp (.var 1) (.one .eq (.str "-0"))) .nil))) (.cons (.ret .non) .nil) .nil) (.cons (.ite (.cmp (.var 2) (.one .eq (.str ""))) (.cons (.ret (.tup (.cons (.bi false .int (.cons (.var 1) .nil)) (.cons (.int 1) .nil)))) .nil) .nil) (.cons (.ite (.bool true (.cons (.not (.call 17 (.cons (.var 3) .nil))) (.cons (.cmp (.var 3) (.one .eq (.str "1"))) (.cons (.not (.call 5 (.cons (.tup (.cons (.bi false .int (.cons (.var 1) .nil)) (.cons (.bi false .int (.cons (.var 3) .nil)) .nil))) .nil))) .nil)))) (.cons (.ret .non) .nil) .nil) (.cons (.ret (.tup (.cons (.bi false .int (.cons (.var 1) .nil)) (.cons (.bi false .int (.cons (.var 3) .nil)) .nil)))) .nil)))))))
def d_number_in : Fn := ⟨1, 5, 0, b_number_in⟩
def b_common : Sms := (.cons (.par [0, 1] (.cons (.bi false .abs (.cons (.var 0) .nil)) (.cons (.bi false .abs (.cons (.var 1) .nil)) .nil))) (.cons (.whl (.cmp (.var 1) (.one .ne (.int 0))) (.cons (.par [0, 1] (.cons (.var 1) (.cons (.bin false .mod (.var 0) (.var 1)) .nil))) .nil)) (.cons (.ret (.var 0)) .nil)))
def d_common : Fn := ⟨2, 2, 0, b_common⟩
def b_is_whole : Sms := (.cons (.ret (.bool false (.cons (.isi (.var 0) [.int]) (.cons (.not (.isi (.var 0) [.bool])) .nil)))) .nil)
def d_is_whole : Fn := ⟨1, 1, 0, b_is_whole⟩
def b__law_less_right : Sms := (.cons (.asg (.var 3) (.call 18 (.cons (.var 0) (.cons (.var 1) .nil)))) (.cons (.ite (.cmp (.met .count (.lst false (.cons (.var 3) (.cons (.call 18 (.cons (.var 1) (.cons (.var 0) .nil))) (.cons (.cmp (.var 0) (.one .eq (.var 1))) .nil)))) (.cons (.bl true) .nil)) (.one .ne (.int 1))) (.cons (.ret (.bl false)) .nil) .nil) (.cons (.ite (.cmp (.call 18 (.cons (.call 2 (.cons (.var 0) (.cons (.var 2) .nil))) (.cons (.call 2 (.cons (.var 1) (.cons (.var 2) .nil))) .nil))) (.one .ne (.var 3))) (.cons (.ret (.bl false)) .nil) .nil) (.cons (.asg (.var 4) (.call 2 (.cons (.call 1 (.cons (.var 2) (.cons (.var 2) .nil))) (.cons (.call 8 (.cons (.int 1) (.cons (.int 7) .nil))) .nil)))) (.cons (.ite (.cmp (.call 18 (.cons (.call 1 (.cons (.var 0) (.cons (.var 4) .nil))) (.cons (.call 1 (.cons (.var 1) (.cons (.var 4) .nil))) .nil))) (.one .ne (.var 3))) (.cons (.ret (.bl false)) .nil) .nil) (.cons (.ret (.call 18 (.cons (.tup (.cons (.int 0) (.cons (.int 1) .nil))) (.cons (.var 4) .nil)))) .nil))))))
def d__law_less_right : Fn := ⟨3, 5, 0, b__law_less_right⟩
def b__law_parted_right : Sms := (.cons (.ite (.cmp (.var 1) (.one .eq (.tup (.cons (.int 0) (.cons (.int 1) .nil))))) (.cons (.ret (.bl true)) .nil) .nil) (.cons (.ite (.bool true (.cons (.cmp (.call 19 (.cons (.call 1 (.cons (.var 0) (.cons (.var 1) .nil))) (.cons (.var 1) .nil))) (.one .ne (.var 0))) (.cons (.cmp (.call 1 (.cons (.call 19 (.cons (.var 0) (.cons (.var 1) .nil))) (.cons (.var 1) .nil))) (.one .ne (.var 0))) .nil))) (.cons (.ret (.bl false)) .nil) .nil) (.cons (.ret (.cmp (.call 19 (.cons (.var 1) (.cons (.var 1) .nil))) (.one .eq (.tup (.cons (.int 1) (.cons (.int 1) .nil)))))) .nil)))
def d__law_parted_right : Fn := ⟨2, 2, 0, b__law_parted_right⟩
def b__law_sums_right : Sms := (.cons (.ite (.bool true (.cons (.cmp (.call 2 (.cons (.var 0) (.cons (.var 1) .nil))) (.one .ne (.call 2 (.cons (.var 1) (.cons (.var 0) .nil))))) (.cons (.cmp (.call 2 (.cons (.call 2 (.cons (.var 0) (.cons (.var 1) .nil))) (.cons (.var 2) .nil))) (.one .ne (.call 2 (.cons (.var 0) (.cons (.call 2 (.cons (.var 1) (.cons (.var 2) .nil))) .nil))))) .nil))) (.cons (.ret (.bl false)) .nil) .nil) (.cons (.ite (.cmp (.call 1 (.cons (.var 0) (.cons (.var 1) .nil))) (.one .ne (.call 1 (.cons (.var 1) (.cons (.var 0) .nil))))) (.cons (.ret (.bl false)) .nil) .nil) (.cons (.asg (.var 3) (.call 1 (.cons (.var 0) (.cons (.call 2 (.cons (.var 1) (.cons (.var 2) .nil))) .nil)))) (.cons (.ite (.cmp (.var 3) (.one .ne (.call 2 (.cons (.call 1 (.cons (.var 0) (.cons (.var 1) .nil))) (.cons (.call 1 (.cons (.var 0) (.cons (.var 2) .nil))) .nil))))) (.cons (.ret (.bl false)) .nil) .nil) (.cons (.ret (.bool false (.cons (.cmp (.call 20 (.cons (.call 2 (.cons (.var 0) (.cons (.var 1) .nil))) (.cons (.var 1) .nil))) (.one .eq (.var 0))) (.cons (.cmp (.call 2 (.cons (.call 20 (.cons (.var 0) (.cons (.var 1) .nil))) (.cons (.var 1) .nil))) (.one .eq (.var 0))) (.cons (.cmp (.call 20 (.cons (.var 0) (.cons (.var 0) .nil))) (.one .eq (.tup (.cons (.int 0) (.cons (.int 1) .nil))))) .nil))))) .nil)))))
def d__law_sums_right : Fn := ⟨3, 4, 0, b__law_sums_right⟩
def b__law_mixed : Sms := (.cons (.ret (.bin false .mod (.bin false .mul (.var 0) (.int 301029995663981195213738894724493026768189881462108541310427)) (.bin false .pow (.int 10) (.int 60)))) .nil)
def d__law_mixed : Fn := ⟨1, 1, 0, b__law_mixed⟩
def b_are_figures : Sms := (.cons (.ite (.bool true (.cons (.cmp (.var 0) (.one .eq (.str ""))) (.cons (.not (.bi false .all (.cons (.comp false [1] (.var 1) (.ex (.var 0)) .no (.cmp (.var 1) (.one .mem (.glob 0)))) .nil))) .nil))) (.cons (.ret (.bl false)) .nil) .nil) (.cons (.ret (.bool true (.cons (.cmp (.var 0) (.one .eq (.str "0"))) (.cons (.cmp (.ix (.var 0) (.int 0)) (.one .ne (.str "0"))) .nil)))) .nil))
def d_are_figures : Fn := ⟨1, 2, 0, b_are_figures⟩
def b_is_less : Sms := (.cons (.ret (.cmp (.bin false .mul (.ix (.var 0) (.int 0)) (.ix (.var 1) (.int 1))) (.one .lt (.bin false .mul (.ix (.var 1) (.int 0)) (.ix (.var 0) (.int 1)))))) .nil)
def d_is_less : Fn := ⟨2, 2, 0, b_is_less⟩
def b_parted : Sms := (.cons (.ret (.call 8 (.cons (.bin false .mul (.ix (.var 0) (.int 0)) (.ix (.var 1) (.int 1))) (.cons (.bin false .mul (.ix (.var 0) (.int 1)) (.ix (.var 1) (.int 0))) .nil)))) .nil)
def d_parted : Fn := ⟨2, 2, 0, b_parted⟩
def b_taken : Sms := (.cons (.ret (.call 8 (.cons (.bin false .sub (.bin false .mul (.ix (.var 0) (.int 0)) (.ix (.var 1) (.int 1))) (.bin false .mul (.ix (.var 1) (.int 0)) (.ix (.var 0) (.int 1)))) (.cons (.bin false .mul (.ix (.var 0) (.int 1)) (.ix (.var 1) (.int 1))) .nil)))) .nil)
def d_taken : Fn := ⟨2, 2, 0, b_taken⟩
def tab : Nat → Option Fn
  | 0 => some d_law
  | 1 => some d_multiplied
  | 2 => some d_added
  | 3 => some d_read_number
  | 4 => some d_show_number
  | 5 => some d_is_number
  | 6 => some d__law_right
  | 7 => some d__law_take
  | 8 => some d_number
  | 9 => some d__law_pack
  | 10 => some d_number_in
  | 11 => some d_common
  | 12 => some d_is_whole
  | 13 => some d__law_less_right
  | 14 => some d__law_parted_right
  | 15 => some d__law_sums_right
  | 16 => some d__law_mixed
  | 17 => some d_are_figures
  | 18 => some d_is_less
  | 19 => some d_parted
  | 20 => some d_taken
  | _ => none
def ge : Nat → T
  | 0 => .str "0123456789"
  | _ => .non
def up : Nat → List Ty := fun _ => []
abbrev n_law : Nat := 0
abbrev n_multiplied : Nat := 1
abbrev n_added : Nat := 2
abbrev n_read_number : Nat := 3
abbrev n_show_number : Nat := 4
abbrev n_is_number : Nat := 5
abbrev n__law_right : Nat := 6
abbrev n__law_take : Nat := 7
abbrev n_number : Nat := 8
abbrev n__law_pack : Nat := 9
abbrev n_number_in : Nat := 10
abbrev n_common : Nat := 11
abbrev n_is_whole : Nat := 12
abbrev n__law_less_right : Nat := 13
abbrev n__law_parted_right : Nat := 14
abbrev n__law_sums_right : Nat := 15
abbrev n__law_mixed : Nat := 16
abbrev n_are_figures : Nat := 17
abbrev n_is_less : Nat := 18
abbrev n_parted : Nat := 19
abbrev n_taken : Nat := 20
end K06
namespace K06
open MP PySem L2
def top (i : Nat) : Stmt := PySem.Challenge.pw_levelcord_k06_whole_numbers_agree.main.body.getD i (.Pass ⟨0, 0, 0, 0⟩)
def sub (i j : Nat) : Stmt := match top i with
  | .ClassDef _ _ _ body _ _ _ _ _ _ _ => body.getD j (.Pass ⟨0, 0, 0, 0⟩)
  | _ => .Pass ⟨0, 0, 0, 0⟩
def FN : List Str := ["law", "multiplied", "added", "read_number", "show_number", "is_number", "_law_right", "_law_take", "number", "_law_pack", "number_in", "common", "is_whole", "_law_less_right", "_law_parted_right", "_law_sums_right", "_law_mixed", "are_figures", "is_less", "parted", "taken"]
def GL : List Str := ["FIGURES"]
def CL : List Str := []
def FD : List (List Str) := []
def nm : Nm where
  fn := fun i => FN.getD i ""
  gl := fun i => GL.getD i ""
  cl := fun i => CL.getD i ""
  fd := fun c i => (FD.getD c []).getD i ""
  isF := fun i => decide (i < 21) && !decide (i ∈ ([] : List Nat))
  isG := fun i => decide (i < 1)
  isC := fun i => decide (i < 0)
  isM := fun i => decide (i ∈ ([] : List Nat))
  nf := fun c => (FD.getD c []).length
  mc := fun f => match f with
    | _ => 0
  ini := fun c => match c with
    | _ => 0
abbrev s_law : Stmt := top 28
def N_law : List Str := ["_law_script", "_law_k", "_law_pack_here", "_law_some", "_law_turn", "_law_one", "_law_top"]
def P_law : List Str := ["_law_script"]
theorem m_law : mtSs nm N_law b_law (defScope s_law) (defBody s_law) = true := by decide +kernel
theorem sc_law : FnScope N_law P_law (defScope s_law) := ⟨rfl, rfl, rfl, by decide +kernel, rfl, by decide +kernel, by decide +kernel⟩
abbrev s_multiplied : Stmt := top 11
def N_multiplied : List Str := ["one", "other"]
def P_multiplied : List Str := ["one", "other"]
theorem m_multiplied : mtSs nm N_multiplied b_multiplied (defScope s_multiplied) (defBody s_multiplied) = true := by decide +kernel
theorem sc_multiplied : FnScope N_multiplied P_multiplied (defScope s_multiplied) := ⟨rfl, rfl, rfl, by decide +kernel, rfl, by decide +kernel, by decide +kernel⟩
abbrev s_added : Stmt := top 9
def N_added : List Str := ["one", "other"]
def P_added : List Str := ["one", "other"]
theorem m_added : mtSs nm N_added b_added (defScope s_added) (defBody s_added) = true := by decide +kernel
theorem sc_added : FnScope N_added P_added (defScope s_added) := ⟨rfl, rfl, rfl, by decide +kernel, rfl, by decide +kernel, by decide +kernel⟩
abbrev s_read_number : Stmt := top 19
def N_read_number : List Str := ["text", "found"]
def P_read_number : List Str := ["text"]
theorem m_read_number : mtSs nm N_read_number b_read_number (defScope s_read_number) (defBody s_read_number) = true := by decide +kernel
theorem sc_read_number : FnScope N_read_number P_read_number (defScope s_read_number) := ⟨rfl, rfl, rfl, by decide +kernel, rfl, by decide +kernel, by decide +kernel⟩
abbrev s_show_number : Stmt := top 16
def N_show_number : List Str := ["one"]
def P_show_number : List Str := ["one"]
theorem m_show_number : mtSs nm N_show_number b_show_number (defScope s_show_number) (defBody s_show_number) = true := by decide +kernel
theorem sc_show_number : FnScope N_show_number P_show_number (defScope s_show_number) := ⟨rfl, rfl, rfl, by decide +kernel, rfl, by decide +kernel, by decide +kernel⟩
abbrev s_is_number : Stmt := top 7
def N_is_number : List Str := ["thing", "part"]
def P_is_number : List Str := ["thing"]
theorem m_is_number : mtSs nm N_is_number b_is_number (defScope s_is_number) (defBody s_is_number) = true := by decide +kernel
theorem sc_is_number : FnScope N_is_number P_is_number (defScope s_is_number) := ⟨rfl, rfl, rfl, by decide +kernel, rfl, by decide +kernel, by decide +kernel⟩
abbrev s__law_right : Stmt := top 27
def N__law_right : List Str := ["_law_a", "_law_b", "_law_c"]
def P__law_right : List Str := ["_law_a", "_law_b", "_law_c"]
theorem m__law_right : mtSs nm N__law_right b__law_right (defScope s__law_right) (defBody s__law_right) = true := by decide +kernel
theorem sc__law_right : FnScope N__law_right P__law_right (defScope s__law_right) := ⟨rfl, rfl, rfl, by decide +kernel, rfl, by decide +kernel, by decide +kernel⟩
abbrev s__law_take : Stmt := top 23
def N__law_take : List Str := ["_law_pack_here", "_law_size", "_law_digit"]
def P__law_take : List Str := ["_law_pack_here", "_law_size"]
theorem m__law_take : mtSs nm N__law_take b__law_take (defScope s__law_take) (defBody s__law_take) = true := by decide +kernel
theorem sc__law_take : FnScope N__law_take P__law_take (defScope s__law_take) := ⟨rfl, rfl, rfl, by decide +kernel, rfl, by decide +kernel, by decide +kernel⟩
abbrev s_number : Stmt := top 8
def N_number : List Str := ["top", "bottom", "both"]
def P_number : List Str := ["top", "bottom"]
theorem m_number : mtSs nm N_number b_number (defScope s_number) (defBody s_number) = true := by decide +kernel
theorem sc_number : FnScope N_number P_number (defScope s_number) := ⟨rfl, rfl, rfl, by decide +kernel, rfl, by decide +kernel, by decide +kernel⟩
abbrev s__law_pack : Stmt := top 22
def N__law_pack : List Str := ["_law_script", "_law_k", "_law_found", "_law_at"]
def P__law_pack : List Str := ["_law_script", "_law_k"]
theorem m__law_pack : mtSs nm N__law_pack b__law_pack (defScope s__law_pack) (defBody s__law_pack) = true := by decide +kernel
theorem sc__law_pack : FnScope N__law_pack P__law_pack (defScope s__law_pack) := ⟨rfl, rfl, rfl, by decide +kernel, rfl, by decide +kernel, by decide +kernel⟩
abbrev s_number_in : Stmt := top 18
def N_number_in : List Str := ["text", "top", "stroke", "bottom", "figures"]
def P_number_in : List Str := ["text"]
theorem m_number_in : mtSs nm N_number_in b_number_in (defScope s_number_in) (defBody s_number_in) = true := by decide +kernel
theorem sc_number_in : FnScope N_number_in P_number_in (defScope s_number_in) := ⟨rfl, rfl, rfl, by decide +kernel, rfl, by decide +kernel, by decide +kernel⟩
abbrev s_common : Stmt := top 6
def N_common : List Str := ["one", "other"]
def P_common : List Str := ["one", "other"]
theorem m_common : mtSs nm N_common b_common (defScope s_common) (defBody s_common) = true := by decide +kernel
theorem sc_common : FnScope N_common P_common (defScope s_common) := ⟨rfl, rfl, rfl, by decide +kernel, rfl, by decide +kernel, by decide +kernel⟩
abbrev s_is_whole : Stmt := top 5
def N_is_whole : List Str := ["thing"]
def P_is_whole : List Str := ["thing"]
theorem m_is_whole : mtSs nm N_is_whole b_is_whole (defScope s_is_whole) (defBody s_is_whole) = true := by decide +kernel
theorem sc_is_whole : FnScope N_is_whole P_is_whole (defScope s_is_whole) := ⟨rfl, rfl, rfl, by decide +kernel, rfl, by decide +kernel, by decide +kernel⟩
abbrev s__law_less_right : Stmt := top 26
def N__law_less_right : List Str := ["_law_a", "_law_b", "_law_c", "_law_under", "_law_above"]
def P__law_less_right : List Str := ["_law_a", "_law_b", "_law_c"]
theorem m__law_less_right : mtSs nm N__law_less_right b__law_less_right (defScope s__law_less_right) (defBody s__law_less_right) = true := by decide +kernel
theorem sc__law_less_right : FnScope N__law_less_right P__law_less_right (defScope s__law_less_right) := ⟨rfl, rfl, rfl, by decide +kernel, rfl, by decide +kernel, by decide +kernel⟩
abbrev s__law_parted_right : Stmt := top 25
def N__law_parted_right : List Str := ["_law_a", "_law_b"]
def P__law_parted_right : List Str := ["_law_a", "_law_b"]
theorem m__law_parted_right : mtSs nm N__law_parted_right b__law_parted_right (defScope s__law_parted_right) (defBody s__law_parted_right) = true := by decide +kernel
theorem sc__law_parted_right : FnScope N__law_parted_right P__law_parted_right (defScope s__law_parted_right) := ⟨rfl, rfl, rfl, by decide +kernel, rfl, by decide +kernel, by decide +kernel⟩
abbrev s__law_sums_right : Stmt := top 24
def N__law_sums_right : List Str := ["_law_a", "_law_b", "_law_c", "_law_product"]
def P__law_sums_right : List Str := ["_law_a", "_law_b", "_law_c"]
theorem m__law_sums_right : mtSs nm N__law_sums_right b__law_sums_right (defScope s__law_sums_right) (defBody s__law_sums_right) = true := by decide +kernel
theorem sc__law_sums_right : FnScope N__law_sums_right P__law_sums_right (defScope s__law_sums_right) := ⟨rfl, rfl, rfl, by decide +kernel, rfl, by decide +kernel, by decide +kernel⟩
abbrev s__law_mixed : Stmt := top 21
def N__law_mixed : List Str := ["_law_cell"]
def P__law_mixed : List Str := ["_law_cell"]
theorem m__law_mixed : mtSs nm N__law_mixed b__law_mixed (defScope s__law_mixed) (defBody s__law_mixed) = true := by decide +kernel
theorem sc__law_mixed : FnScope N__law_mixed P__law_mixed (defScope s__law_mixed) := ⟨rfl, rfl, rfl, by decide +kernel, rfl, by decide +kernel, by decide +kernel⟩
abbrev s_are_figures : Stmt := top 17
def N_are_figures : List Str := ["text", "sign"]
def P_are_figures : List Str := ["text"]
theorem m_are_figures : mtSs nm N_are_figures b_are_figures (defScope s_are_figures) (defBody s_are_figures) = true := by decide +kernel
theorem sc_are_figures : FnScope N_are_figures P_are_figures (defScope s_are_figures) := ⟨rfl, rfl, rfl, by decide +kernel, rfl, by decide +kernel, by decide +kernel⟩
abbrev s_is_less : Stmt := top 13
def N_is_less : List Str := ["one", "other"]
def P_is_less : List Str := ["one", "other"]
theorem m_is_less : mtSs nm N_is_less b_is_less (defScope s_is_less) (defBody s_is_less) = true := by decide +kernel
theorem sc_is_less : FnScope N_is_less P_is_less (defScope s_is_less) := ⟨rfl, rfl, rfl, by decide +kernel, rfl, by decide +kernel, by decide +kernel⟩
abbrev s_parted : Stmt := top 12
def N_parted : List Str := ["one", "other"]
def P_parted : List Str := ["one", "other"]
theorem m_parted : mtSs nm N_parted b_parted (defScope s_parted) (defBody s_parted) = true := by decide +kernel
theorem sc_parted : FnScope N_parted P_parted (defScope s_parted) := ⟨rfl, rfl, rfl, by decide +kernel, rfl, by decide +kernel, by decide +kernel⟩
abbrev s_taken : Stmt := top 10
def N_taken : List Str := ["one", "other"]
def P_taken : List Str := ["one", "other"]
theorem m_taken : mtSs nm N_taken b_taken (defScope s_taken) (defBody s_taken) = true := by decide +kernel
theorem sc_taken : FnScope N_taken P_taken (defScope s_taken) := ⟨rfl, rfl, rfl, by decide +kernel, rfl, by decide +kernel, by decide +kernel⟩
end K06

set_option Elab.async false
set_option linter.all false
set_option maxRecDepth 100000
set_option maxHeartbeats 1000000
namespace MP
open PySem L2 TX
abbrev num (q : Rat) : T := .tup [.int q.num, .int q.den]
theorem eqb_num (a b : Rat) : (num a).eqb (num b) = decide (a = b) := by
  show ((a.num == b.num) && (((a.den : Int) == (b.den : Int)) && true)) = decide (a = b)
  by_cases h : a = b
  · subst h
    rw [decide_eq_true rfl]; simp
  · rw [decide_eq_false h]
    by_cases h1 : a.num = b.num
    · have h2 : (a.den : Int) ≠ (b.den : Int) := fun z => h (Rat.ext h1 (by omega))
      rw [beq_eq_false_iff_ne.mpr h2]; simp
    · rw [beq_eq_false_iff_ne.mpr h1]; rfl
theorem okd_num (a : Rat) : T.okd 60 (num a) = true := rfl
/-- tops and bottoms of at most k figures -/
def Bd (k : Nat) (q : Rat) : Prop := q.num.natAbs < 10 ^ k ∧ q.den < 10 ^ k
theorem Bd.mono {j k : Nat} {q : Rat} (h : Bd j q) (hk : j ≤ k) : Bd k q := ⟨Nat.lt_of_lt_of_le h.1 (Nat.pow_le_pow_right (by decide) hk), Nat.lt_of_lt_of_le h.2 (Nat.pow_le_pow_right (by decide) hk)⟩
theorem Bd.szN {k : Nat} {q : Rat} (h : Bd k q) (hk : k ≤ 300) : szM q.num ∧ szM (q.den : Int) := by
  have f : ∀ i : Int, i.natAbs < 10 ^ 300 → szM i := fun i hi => by
    show (if i == 0 then 0 else i.natAbs.log2 + 1) ≤ 1048576
    split
    · omega
    · rename_i h0
      have : i.natAbs ≠ 0 := fun z => h0 (beq_iff_eq.mpr (Int.natAbs_eq_zero.mp z))
      have := (Nat.log2_lt this).mpr (Nat.lt_trans hi (show 10 ^ 300 < 2 ^ 1000 by decide +kernel))
      omega
  have h' := h.mono hk
  exact ⟨f _ h'.1, f _ (by rw [Int.natAbs_natCast]; exact h'.2)⟩
theorem divInt_bd {t b : Int} {k : Nat} (hb : b ≠ 0) (h1 : t.natAbs < 10 ^ k) (h2 : b.natAbs < 10 ^ k) : Bd k (Rat.divInt t b) := by
  refine ⟨?_, ?_⟩
  · rw [Rat.num_divInt]
    refine Nat.lt_of_le_of_lt (Int.natAbs_ediv_le_natAbs _ _) ?_
    rw [Int.natAbs_mul]
    have : b.sign.natAbs = 1 := by rw [Int.natAbs_sign]; simp [hb]
    rw [this, Nat.one_mul]; exact h1
  · rw [Rat.den_divInt, if_neg hb]
    exact Nat.lt_of_le_of_lt (Nat.div_le_self _ _) h2
theorem add_eq (a b : Rat) : Rat.divInt (a.num * b.den + b.num * a.den) (a.den * b.den) = a + b := by
  rw [← Rat.divInt_add_divInt _ _ (by have := a.den_nz; omega) (by have := b.den_nz; omega), Rat.num_divInt_den, Rat.num_divInt_den]
theorem sub_eq (a b : Rat) : Rat.divInt (a.num * b.den - b.num * a.den) (a.den * b.den) = a - b := by
  rw [← Rat.divInt_sub_divInt _ _ (by have := a.den_nz; omega) (by have := b.den_nz; omega), Rat.num_divInt_den, Rat.num_divInt_den]
theorem mul_eq (a b : Rat) : Rat.divInt (a.num * b.num) (a.den * b.den) = a * b := by
  rw [← Rat.divInt_mul_divInt, Rat.num_divInt_den, Rat.num_divInt_den]
theorem div_eq (a b : Rat) (hb : b ≠ 0) : Rat.divInt (a.num * b.den) (a.den * b.num) = a / b := by
  have hn : b.num ≠ 0 := fun z => hb (Rat.num_eq_zero.mp z)
  rw [← Rat.divInt_mul_divInt, Rat.num_divInt_den, Rat.div_def]
  congr 1
  rw [Rat.inv_def]
theorem mul_lt {a b : Int} {j k : Nat} (h : a.natAbs < 10 ^ j) (h' : b.natAbs < 10 ^ k) : (a * b).natAbs < 10 ^ (j + k) := by
  rw [Int.natAbs_mul, Nat.pow_add]
  exact Nat.mul_lt_mul'' h h'
theorem add_lt {a b : Int} {j : Nat} (h : a.natAbs < 10 ^ j) (h' : b.natAbs < 10 ^ j) : (a + b).natAbs < 10 ^ (j + 1) := by
  rw [Nat.pow_succ]
  have := Int.natAbs_add_le a b
  omega
end MP

set_option Elab.async false
set_option linter.all false
set_option maxRecDepth 100000
set_option maxHeartbeats 1000000
namespace K06
open MP PySem L2 TX TL
theorem fmod_nat (x y : Nat) : ((x : Int)).fmod (y : Int) = ((x % y : Nat) : Int) := by
  rw [Int.fmod_eq_emod_of_nonneg _ (Int.natCast_nonneg y)]; rfl
theorem gcd_step {x y : Nat} : Nat.gcd y (x % y) = Nat.gcd x y := by
  rw [Nat.gcd_comm x y, Nat.gcd_rec y x, Nat.gcd_comm]
theorem c_common {k a b Q E} (h : Q (.t (.int (Int.gcd a b : Nat))) []) : cfn tab ge up (k+1) n_common [.t (.int a), .t (.int b)] [] Q E := by
  refine cfn_in rfl ⟨rfl, ?_⟩
  conv => whnf
  refine ⟨fun m σ S => ∃ x y : Nat, σ = [some (.t (.int x)), some (.t (.int y))] ∧ S = [] ∧ m = y ∧ Nat.gcd x y = Int.gcd a b, ⟨_, a.natAbs, b.natAbs, rfl, rfl, rfl, rfl⟩, ?_⟩
  rintro m σ S ⟨x, y, rfl, rfl, hm, hg⟩
  conv => whnf
  refine ⟨rfl, rfl, ?_⟩
  conv => whnf
  refine br_of (fun e => ?_) (fun e => ?_)
  · have hy : (y : Int) ≠ 0 := fun z => by rw [z] at e; cases e
    conv => whnf
    refine ⟨hy, ?_⟩
    conv => whnf
    refine ⟨x % y, by rw [hm]; exact Nat.mod_lt _ (by omega), y, x % y, ?_, rfl, rfl, ?_⟩
    · rw [fmod_nat]; rfl
    · rw [gcd_step]; exact hg
  · have hy : y = 0 := by
      have e2 : (!((y : Int) == 0)) = false := e
      have e3 : ((y : Int) == 0) = true := by simpa using e2
      have := beq_iff_eq.mp e3
      omega
    subst hy
    conv => whnf
    rw [Nat.gcd_zero_right] at hg
    rw [hg]
    exact h
theorem log_ok {g : Int} (h0 : g ≠ 0) (h : g.natAbs < 10 ^ 400) : g.natAbs.log2 < 9000 := by
  rw [Nat.log2_lt (by omega)]
  exact Nat.lt_trans h (by decide +kernel)
theorem c_number {k t b Q E} (hb : b ≠ 0) (nb : b.natAbs < 10 ^ 400) (h : Q (.t (num (Rat.divInt t b))) []) : cfn tab ge up (k+2) n_number [.t (.int t), .t (.int b)] [] Q E := by
  have hg0 : 0 < Int.gcd t b := Nat.pos_of_ne_zero fun z => hb (Int.gcd_eq_zero_iff.mp z).2
  have hgb : Int.gcd t b ≤ b.natAbs := Nat.le_of_dvd (by omega) (Int.gcd_dvd_natAbs_right t b)
  have hlog : ∀ g : Int, g.natAbs = Int.gcd t b → divOk g := fun g hg => ⟨by omega, log_ok (by omega) (by omega)⟩
  have d1 : ((Int.gcd t b : Nat) : Int) ∣ t := Int.gcd_dvd_left t b
  have d2 : ((Int.gcd t b : Nat) : Int) ∣ b := Int.gcd_dvd_right t b
  refine cfn_in rfl ⟨rfl, ?_⟩
  conv => whnf
  refine ⟨rfl, rfl, ?_⟩
  have e0 : (T.int b).eqb (T.int 0) = false := beq_eq_false_iff_ne.mpr hb
  rw [e0]
  conv => whnf
  refine callS_pure rfl ?_
  refine c_common ?_
  conv => whnf
  refine br_of (fun e => ?_) (fun e => ?_)
  · have hn : b < 0 := of_decide_eq_true e
    conv => whnf
    refine ⟨hlog _ (by simp), ?_⟩
    conv => whnf
    refine ⟨hlog _ (by simp), ?_⟩
    conv => whnf
    have s : b.sign = -1 := Int.sign_eq_neg_one_of_neg hn
    have e1 : t.fdiv (0 - ((Int.gcd t b : Nat) : Int)) = (Rat.divInt t b).num := by
      rw [Rat.num_divInt, s, Int.zero_sub, Int.fdiv_eq_ediv_of_dvd (Int.neg_dvd.mpr d1), Int.ediv_neg, Int.gcd_comm b t, Int.neg_one_mul, Int.neg_ediv_of_dvd d1]
    have e2 : b.fdiv (0 - ((Int.gcd t b : Nat) : Int)) = ((Rat.divInt t b).den : Int) := by
      rw [Rat.den_divInt, if_neg hb, Int.zero_sub, Int.fdiv_eq_ediv_of_dvd (Int.neg_dvd.mpr d2), Int.ediv_neg, ← Int.neg_ediv_of_dvd d2, Int.gcd_comm b t, Int.natCast_ediv]
      congr 1
      omega
    rw [e1, e2]
    exact h
  · have hn : 0 < b := by
      have := of_decide_eq_false e
      omega
    conv => whnf
    refine ⟨hlog _ (by simp), ?_⟩
    conv => whnf
    refine ⟨hlog _ (by simp), ?_⟩
    conv => whnf
    have s : b.sign = 1 := Int.sign_eq_one_of_pos hn
    have e1 : t.fdiv ((Int.gcd t b : Nat) : Int) = (Rat.divInt t b).num := by
      rw [Rat.num_divInt, s, Int.fdiv_eq_ediv_of_dvd d1, Int.one_mul, Int.gcd_comm b t]
    have e2 : b.fdiv ((Int.gcd t b : Nat) : Int) = ((Rat.divInt t b).den : Int) := by
      rw [Rat.den_divInt, if_neg hb, Int.fdiv_eq_ediv_of_dvd d2, Int.gcd_comm b t, Int.natCast_ediv]
      congr 1
      omega
    rw [e1, e2]
    exact h
theorem den2 (a b : Rat) : (a.den : Int) * (b.den : Int) ≠ 0 := Int.mul_ne_zero (by have := a.den_nz; omega) (by have := b.den_nz; omega)
theorem den2_lt {a b : Rat} (ha : Bd 100 a) (hb : Bd 100 b) : ((a.den : Int) * (b.den : Int)).natAbs < 10 ^ 400 :=
  Nat.lt_of_lt_of_le (mul_lt (j := 100) (k := 100) (by rw [Int.natAbs_natCast]; exact ha.2) (by rw [Int.natAbs_natCast]; exact hb.2)) (Nat.pow_le_pow_right (by decide) (by decide))
theorem c_added {k : Nat} {a b : Rat} {Q E} (ha : Bd 100 a) (hb : Bd 100 b) (h : Q (.t (num (a + b))) []) : cfn tab ge up (k+3) n_added [.t (num a), .t (num b)] [] Q E := by
  have za := ha.szN (by omega)
  have zb := hb.szN (by omega)
  refine cfn_in rfl ⟨rfl, ?_⟩
  conv => whnf
  refine ⟨⟨za.1, zb.2⟩, ?_⟩
  conv => whnf
  refine ⟨⟨zb.1, za.2⟩, ?_⟩
  conv => whnf
  refine ⟨⟨za.2, zb.2⟩, ?_⟩
  conv => whnf
  refine callS_pure rfl ?_
  refine c_number (den2 a b) (den2_lt ha hb) ?_
  rw [add_eq]
  conv => whnf
  exact h
theorem c_taken {k : Nat} {a b : Rat} {Q E} (ha : Bd 100 a) (hb : Bd 100 b) (h : Q (.t (num (a - b))) []) : cfn tab ge up (k+3) n_taken [.t (num a), .t (num b)] [] Q E := by
  have za := ha.szN (by omega)
  have zb := hb.szN (by omega)
  refine cfn_in rfl ⟨rfl, ?_⟩
  conv => whnf
  refine ⟨⟨za.1, zb.2⟩, ?_⟩
  conv => whnf
  refine ⟨⟨zb.1, za.2⟩, ?_⟩
  conv => whnf
  refine ⟨⟨za.2, zb.2⟩, ?_⟩
  conv => whnf
  refine callS_pure rfl ?_
  refine c_number (den2 a b) (den2_lt ha hb) ?_
  rw [sub_eq]
  conv => whnf
  exact h
theorem c_multiplied {k : Nat} {a b : Rat} {Q E} (ha : Bd 100 a) (hb : Bd 100 b) (h : Q (.t (num (a * b))) []) : cfn tab ge up (k+3) n_multiplied [.t (num a), .t (num b)] [] Q E := by
  have za := ha.szN (by omega)
  have zb := hb.szN (by omega)
  refine cfn_in rfl ⟨rfl, ?_⟩
  conv => whnf
  refine ⟨⟨za.1, zb.1⟩, ?_⟩
  conv => whnf
  refine ⟨⟨za.2, zb.2⟩, ?_⟩
  conv => whnf
  refine callS_pure rfl ?_
  refine c_number (den2 a b) (den2_lt ha hb) ?_
  rw [mul_eq]
  conv => whnf
  exact h
theorem c_parted {k : Nat} {a b : Rat} {Q E} (h0 : b ≠ 0) (ha : Bd 100 a) (hb : Bd 100 b) (h : Q (.t (num (a / b))) []) : cfn tab ge up (k+3) n_parted [.t (num a), .t (num b)] [] Q E := by
  have za := ha.szN (by omega)
  have zb := hb.szN (by omega)
  refine cfn_in rfl ⟨rfl, ?_⟩
  have hn : b.num ≠ 0 := fun z => h0 (Rat.num_eq_zero.mp z)
  conv => whnf
  refine ⟨⟨za.1, zb.2⟩, ?_⟩
  conv => whnf
  refine ⟨⟨za.2, zb.1⟩, ?_⟩
  conv => whnf
  refine callS_pure rfl ?_
  refine c_number (Int.mul_ne_zero (by have := a.den_nz; omega) hn) (Nat.lt_of_lt_of_le (mul_lt (j := 100) (k := 100) (by rw [Int.natAbs_natCast]; exact ha.2) hb.1) (Nat.pow_le_pow_right (by decide) (by decide))) ?_
  rw [div_eq a b h0]
  conv => whnf
  exact h
theorem c_is_less {k : Nat} {a b : Rat} {Q E} (ha : Bd 100 a) (hb : Bd 100 b) (h : Q (.t (.bl (decide (a < b)))) []) : cfn tab ge up (k+1) n_is_less [.t (num a), .t (num b)] [] Q E := by
  have za := ha.szN (by omega)
  have zb := hb.szN (by omega)
  refine cfn_in rfl ⟨rfl, ?_⟩
  conv => whnf
  refine ⟨⟨za.1, zb.2⟩, ?_⟩
  conv => whnf
  refine ⟨⟨zb.1, za.2⟩, ?_⟩
  conv => whnf
  have e : decide (a < b) = decide (a.num * (b.den : Int) < b.num * (a.den : Int)) := decide_eq_decide.mpr (Rat.lt_iff a b)
  rw [e] at h
  exact h
end K06

set_option Elab.async false
set_option linter.all false
set_option maxRecDepth 100000
set_option maxHeartbeats 1000000
namespace K06
open MP PySem L2 TX TL
theorem c_take {k n s Q E} (hs : 0 < s) (hs2 : s.natAbs.log2 < 9000) (h : Q (.t (.int (n % s))) [.lst [.int (n / s)]]) : cfn tab ge up (k+1) n__law_take [.r 0, .t (.int s)] [.lst [.int n]] Q E := by
  refine cfn_in rfl ⟨rfl, ?_⟩
  conv => whnf
  refine ⟨⟨hs, hs2⟩, ?_⟩
  conv => whnf
  refine ⟨?_⟩
  conv => whnf
  exact h
def C60 : Int := 301029995663981195213738894724493026768189881462108541310427
theorem c_mixed {k c Q E} (hs : szM c) (h : ∀ m : Int, 0 ≤ m → m < 10 ^ 60 → Q (.t (.int m)) []) : cfn tab ge up (k+1) n__law_mixed [.t (.int c)] [] Q E := by
  refine cfn_in rfl ⟨rfl, ?_⟩
  conv => whnf
  refine ⟨⟨hs, by decide +kernel⟩, ?_⟩
  conv => whnf
  refine ⟨by decide, ?_⟩
  conv => whnf
  refine ⟨by decide +kernel, ?_⟩
  have e : (10 : Int) ^ Int.toNat 60 = 10 ^ 60 := rfl
  refine h _ ?_ ?_
  · rw [e, Int.fmod_eq_emod_of_nonneg _ (by decide +kernel)]; exact Int.emod_nonneg _ (by decide +kernel)
  · rw [e, Int.fmod_eq_emod_of_nonneg _ (by decide +kernel)]; exact Int.emod_lt_of_pos _ (by decide +kernel)
theorem c_is_whole {k a Q E} (h : Q (.t (.bl true)) []) : cfn tab ge up (k+1) n_is_whole [.t (.int a)] [] Q E := by
  refine cfn_in rfl ⟨rfl, ?_⟩
  conv => whnf
  exact h
theorem c_show {k a b Q E} (ha : NB a) (hb : NB b) (h : Q (.t (.str (txt a b))) []) : cfn tab ge up (k+1) n_show_number [.t (.tup [.int a, .int b])] [] Q E := by
  refine cfn_in rfl ⟨rfl, ?_⟩
  conv => whnf
  refine ⟨rfl, rfl, ?_⟩
  conv => whnf
  refine br_of (fun e => ?_) (fun e => ?_)
  · have hb1 : b = 1 := beq_iff_eq.mp e
    conv => whnf
    refine ⟨ha.log, ?_⟩
    conv => whnf
    unfold txt at h
    rw [if_pos hb1] at h
    exact h
  · have hb1 : b ≠ 1 := fun z => by subst z; cases e
    conv => whnf
    refine ⟨ha.log, ?_⟩
    conv => whnf
    refine ⟨?_, ?_⟩
    · have := itx_len ha
      show (itx a).length + 1 ≤ _
      omega
    · conv => whnf
      refine ⟨hb.log, ?_⟩
      conv => whnf
      refine ⟨?_, ?_⟩
      · have h1 := itx_len ha
        have h2 := itx_len hb
        show (itx a ++ Str.ofString "/").length + (itx b).length ≤ _
        rw [len_tl, tl_append, List.length_append, ← len_tl, slash]
        simp only [List.length_singleton]; omega
      · conv => whnf
        unfold txt at h
        rw [if_neg hb1] at h
        exact h
/-- digits alone -/
theorem c_figures {k : Nat} {n : Nat} {Q E} (hn : (numL n).length ≤ 1000) (h : Q (.t (.bl true)) []) : cfn tab ge up (k+1) n_are_figures [.t (.str (itx (n : Int)))] [] Q E := by
  refine cfn_in rfl ⟨rfl, ?_⟩
  conv => whnf
  have hok : strOk (itx (n : Int)) = true := okS fun c h => by have := itx_small c h; omega
  refine ⟨hok, by decide +kernel, ?_⟩
  conv => whnf
  refine br_of (fun e => ?_) (fun e => ?_)
  · exfalso
    have e2 : itx (n : Int) = Str.ofString "" := beq_iff_eq.mp e
    have := congrArg tl e2
    rw [tl_nat] at this
    exact numL_ne n this
  · conv => whnf
    have hsig : (itx (n : Int)).cps.toList = numL n := tl_nat n
    rw [hsig]
    refine ⟨by rw [List.length_map]; omega, ?_⟩
    refine compL_pure (fun _ => some (.bl true)) (fun x hx kk q => ?_) ?_
    · obtain ⟨c, hc, rfl⟩ := List.mem_map.mp hx
      have hd := numL_digits n c hc
      conv => whnf
      have e2 := fig_in hd.1 hd.2
      rw [e2]
      exact q
    · rw [List.nil_append, fm_true]
      conv => whnf
      rw [asBls_map]
      conv => whnf
      rw [all_true]
      conv => whnf
      refine ⟨hok, by decide +kernel, ?_⟩
      conv => whnf
      refine br_of (fun e2 => ?_) (fun e2 => ?_)
      · conv => whnf
        have e3 : ((T.str (itx (n : Int))).eqb (T.str (Str.ofString "0"))) = true := e2
        rw [e3]
        exact h
      · have h0 : n ≠ 0 := fun z => by
          have : itx (n : Int) = Str.ofString "0" := (nat_zero n).mpr z
          rw [this] at e2
          exact absurd e2 (by decide +kernel)
        obtain ⟨c, r, ec, h1, h2⟩ := numL_head n h0
        conv => whnf
        refine ⟨?_, ?_⟩
        · rw [len_tl, tl_nat]; omega
        · rw [hsig, ec, atI_zero]
          conv => whnf
          refine ⟨?_, by decide +kernel, ?_⟩
          · exact okS fun d hd => by
              have : d = c := by simpa [tl] using hd
              omega
          · have hne : ((T.str ⟨#[c]⟩).eqb (T.str (Str.ofString "0"))) = false := by
              show ((⟨#[c]⟩ : Str) == Str.ofString "0") = false
              rw [beq_eq_false_iff_ne]
              intro z
              have := congrArg tl z
              rw [zero_txt] at this
              have : c = 48 := by simpa [tl] using this
              omega
            rw [hne]
            conv => whnf
            exact h
/-- lowest terms with a bottom above nought -/
def Lo (a b : Int) : Prop := 1 ≤ b ∧ Int.gcd a b = 1
theorem c_is_number {k a b Q E} (hl : Lo a b) (h : Q (.t (.bl true)) []) : cfn tab ge up (k+2) n_is_number [.t (.tup [.int a, .int b])] [] Q E := by
  refine cfn_in rfl ⟨rfl, ?_⟩
  conv => whnf
  refine ⟨rfl, rfl, ?_⟩
  conv => whnf
  refine ⟨Nat.le_of_ble_eq_true rfl, ?_⟩
  conv => whnf
  refine callS_pure rfl ?_
  refine c_is_whole ?_
  conv => whnf
  refine callS_pure rfl ?_
  refine c_is_whole ?_
  conv => whnf
  refine br_of (fun e => ?_) (fun e => ?_)
  · conv => whnf
    refine callS_pure rfl ?_
    refine c_common ?_
    conv => whnf
    refine ⟨rfl, rfl, ?_⟩
    conv => whnf
    rw [hl.2]
    exact h
  · exact absurd hl.1 (of_decide_eq_false e)
theorem NB.div {a g : Int} (h : NB a) : NB (a / g) := Nat.lt_of_le_of_lt (Int.natAbs_ediv_le_natAbs a g) h
theorem cut_head (z : Str) : tl (cutS z none (some 1)) = (tl z).take 1 := by
  unfold cutS
  rw [tl_mk]
  have h1 : HT.sIx z.length 0 none = 0 := rfl
  have h2 : HT.sIx z.length z.length (some 1) = min 1 z.length := HT.sIx_nat _ _ 1
  rw [h1, h2, List.drop_zero, Nat.sub_zero, len_tl]
  by_cases h : 1 ≤ (tl z).length
  · rw [Nat.min_eq_left h]
  · have : tl z = [] := List.length_eq_zero_iff.mp (by omega)
    rw [show z.cps.toList = tl z from rfl, this]; rfl
theorem cut_tail (z : Str) : tl (cutS z (some 1) none) = (tl z).drop 1 := by
  unfold cutS
  rw [tl_mk]
  have h1 : HT.sIx z.length 0 (some 1) = min 1 z.length := HT.sIx_nat _ _ 1
  have h2 : HT.sIx z.length z.length none = z.length := rfl
  rw [h1, h2, len_tl]
  show ((tl z).drop (min 1 (tl z).length)).take _ = _
  by_cases h : 1 ≤ (tl z).length
  · rw [Nat.min_eq_left h, List.take_of_length_le (by rw [List.length_drop]; exact Nat.le_refl _)]
  · have : tl z = [] := List.length_eq_zero_iff.mp (by omega)
    rw [this]; rfl
theorem dash : tl (Str.ofString "-") = [45] := by rw [tl_ofString]; rfl
theorem dash0 : tl (Str.ofString "-0") = [45, 48] := by rw [tl_ofString]; rfl
theorem one_txt : tl (Str.ofString "1") = [49] := by rw [tl_ofString]; rfl
theorem figs_of {a : Int} (h : a < 0) : cutS (itx a) (some 1) none = itx (a.natAbs : Int) := by
  refine ext_tl ?_
  rw [cut_tail, tl_itx, if_pos h, tl_nat]; rfl
theorem head_neg {a : Int} (h : a < 0) : cutS (itx a) none (some 1) = Str.ofString "-" := by
  refine ext_tl ?_
  rw [cut_head, tl_itx, if_pos h, dash]; rfl
theorem head_pos {a : Int} (h : ¬ a < 0) : cutS (itx a) none (some 1) ≠ Str.ofString "-" := fun z => by
  have := congrArg tl z
  rw [cut_head, tl_itx, if_neg h, dash] at this
  have hd := numL_digits a.natAbs 45 (by
    have : 45 ∈ (numL a.natAbs).take 1 := by rw [this]; simp
    exact List.mem_of_mem_take this)
  omega
theorem not_dash0 (a : Int) : itx a ≠ Str.ofString "-0" := fun z => by
  have := congrArg tl z
  rw [tl_itx, dash0] at this
  by_cases h : a < 0
  · rw [if_pos h] at this
    obtain ⟨c, r, e, h1, h2⟩ := numL_head a.natAbs (by omega)
    rw [e] at this
    have := (List.cons.inj (List.cons.inj this).2).1
    omega
  · rw [if_neg h] at this
    have hd := numL_digits a.natAbs 45 (by rw [this]; simp)
    omega
theorem not_one {b : Int} (h : 1 ≤ b) (h1 : b ≠ 1) : itx b ≠ Str.ofString "1" := fun z => by
  have := congrArg tl z
  rw [tl_itx, if_neg (by omega), one_txt] at this
  have e : numL 1 = [49] := numL_lt (by decide)
  rw [← e] at this
  have := numL_inj this
  omega
theorem eqS {x y : Str} (h : x ≠ y) : (T.str x).eqb (T.str y) = false := beq_eq_false_iff_ne.mpr h
theorem eqS' (x : Str) : (T.str x).eqb (T.str x) = true := beq_self_eq_true x
theorem itx_ok {i : Int} : strOk (itx i) = true := okS fun c h => by have := itx_small c h; omega
theorem cut_ok {x : Str} {lo hi : Option Int} (h : strOk x = true) : strOk (cutS x lo hi) = true := by
  refine okS fun c hc => ?_
  have : c ∈ tl x := by
    unfold cutS at hc
    rw [tl_mk] at hc
    exact List.mem_of_mem_drop (List.mem_of_mem_take hc)
  have h2 := Array.all_eq_true'.mp h c (by simpa [tl] using this)
  simpa using h2
theorem c_number_in {k a b Q E} (hl : Lo a b) (na : NB a) (nb : NB b) (h : Q (.t (.tup [.int a, .int b])) []) : cfn tab ge up (k+3) n_number_in [.t (.str (txt a b))] [] Q E := by
  have hlenA := itx_len na
  have hlenB := itx_len nb
  have hlenT := txt_len na nb
  refine cfn_in rfl ⟨rfl, ?_⟩
  conv => whnf
  refine ⟨?_⟩
  conv => whnf
  refine ⟨⟨rfl, by omega⟩, ?_⟩
  rw [part_txt]
  have eb : itx b = itx ((b.natAbs : Nat) : Int) := by rw [Int.natAbs_of_nonneg (by have := hl.1; omega)]
  by_cases ha : a < 0
  · by_cases hb : b = 1
    · rw [if_pos hb]
      subst hb
      dsimp only
      conv => whnf
      refine ⟨by omega, ?_⟩
      conv => whnf
      refine ⟨cut_ok itx_ok, by decide +kernel, ?_⟩
      rw [head_neg ha, eqS']
      conv => whnf
      refine ⟨by omega, ?_⟩
      rw [figs_of ha]
      conv => whnf
      refine callS_pure rfl ?_
      refine c_figures (by have := na.len; omega) ?_
      conv => whnf
      refine ⟨itx_ok, by decide +kernel, ?_⟩
      rw [eqS (not_dash0 a)]
      conv => whnf
      refine ⟨by decide +kernel, by decide +kernel, ?_⟩
      rw [show (T.str Str.empty).eqb (T.str (Str.ofString "")) = true from by decide +kernel]
      conv => whnf
      refine ⟨by omega, ?_⟩
      rw [int_itx na]
      conv => whnf
      exact h
    · rw [if_neg hb]
      dsimp only
      conv => whnf
      refine ⟨by omega, ?_⟩
      conv => whnf
      refine ⟨cut_ok itx_ok, by decide +kernel, ?_⟩
      rw [head_neg ha, eqS']
      conv => whnf
      refine ⟨by omega, ?_⟩
      rw [figs_of ha]
      conv => whnf
      refine callS_pure rfl ?_
      refine c_figures (by have := na.len; omega) ?_
      conv => whnf
      refine ⟨itx_ok, by decide +kernel, ?_⟩
      rw [eqS (not_dash0 a)]
      conv => whnf
      refine ⟨by decide +kernel, by decide +kernel, ?_⟩
      rw [show (T.str (Str.ofString "/")).eqb (T.str (Str.ofString "")) = false from by decide +kernel]
      conv => whnf
      rw [eb]
      refine callS_pure rfl ?_
      refine c_figures (by have := nb.len; omega) ?_
      rw [← eb]
      conv => whnf
      refine ⟨itx_ok, by decide +kernel, ?_⟩
      rw [eqS (not_one hl.1 hb)]
      conv => whnf
      refine ⟨by omega, ?_⟩
      rw [int_itx na]
      conv => whnf
      refine ⟨by omega, ?_⟩
      rw [int_itx nb]
      conv => whnf
      refine callS_pure rfl ?_
      refine c_is_number hl ?_
      conv => whnf
      refine ⟨by omega, ?_⟩
      rw [int_itx na]
      conv => whnf
      refine ⟨by omega, ?_⟩
      rw [int_itx nb]
      conv => whnf
      exact h
  · have ea : itx a = itx ((a.natAbs : Nat) : Int) := by rw [Int.natAbs_of_nonneg (by omega)]
    by_cases hb : b = 1
    · rw [if_pos hb]
      subst hb
      dsimp only
      conv => whnf
      refine ⟨by omega, ?_⟩
      conv => whnf
      refine ⟨cut_ok itx_ok, by decide +kernel, ?_⟩
      rw [eqS (head_pos ha)]
      conv => whnf
      rw [ea]
      refine callS_pure rfl ?_
      refine c_figures (by have := na.len; omega) ?_
      rw [← ea]
      conv => whnf
      refine ⟨itx_ok, by decide +kernel, ?_⟩
      rw [eqS (not_dash0 a)]
      conv => whnf
      refine ⟨by decide +kernel, by decide +kernel, ?_⟩
      rw [show (T.str Str.empty).eqb (T.str (Str.ofString "")) = true from by decide +kernel]
      conv => whnf
      refine ⟨by omega, ?_⟩
      rw [int_itx na]
      conv => whnf
      exact h
    · rw [if_neg hb]
      dsimp only
      conv => whnf
      refine ⟨by omega, ?_⟩
      conv => whnf
      refine ⟨cut_ok itx_ok, by decide +kernel, ?_⟩
      rw [eqS (head_pos ha)]
      conv => whnf
      rw [ea]
      refine callS_pure rfl ?_
      refine c_figures (by have := na.len; omega) ?_
      rw [← ea]
      conv => whnf
      refine ⟨itx_ok, by decide +kernel, ?_⟩
      rw [eqS (not_dash0 a)]
      conv => whnf
      refine ⟨by decide +kernel, by decide +kernel, ?_⟩
      rw [show (T.str (Str.ofString "/")).eqb (T.str (Str.ofString "")) = false from by decide +kernel]
      conv => whnf
      rw [eb]
      refine callS_pure rfl ?_
      refine c_figures (by have := nb.len; omega) ?_
      rw [← eb]
      conv => whnf
      refine ⟨itx_ok, by decide +kernel, ?_⟩
      rw [eqS (not_one hl.1 hb)]
      conv => whnf
      refine ⟨by omega, ?_⟩
      rw [int_itx na]
      conv => whnf
      refine ⟨by omega, ?_⟩
      rw [int_itx nb]
      conv => whnf
      refine callS_pure rfl ?_
      refine c_is_number hl ?_
      conv => whnf
      refine ⟨by omega, ?_⟩
      rw [int_itx na]
      conv => whnf
      refine ⟨by omega, ?_⟩
      rw [int_itx nb]
      conv => whnf
      exact h
theorem c_read {k a b Q E} (hl : Lo a b) (na : NB a) (nb : NB b) (h : Q (.t (.tup [.int a, .int b])) []) : cfn tab ge up (k+4) n_read_number [.t (.str (txt a b))] [] Q E := by
  refine cfn_in rfl ⟨rfl, ?_⟩
  conv => whnf
  refine callS_pure rfl ?_
  refine c_number_in hl na nb ?_
  conv => whnf
  exact h
theorem szM_of {i : Int} {n : Nat} (h : i.natAbs < 2 ^ n) (hn : n ≤ 1048576) : szM i := by
  show (if i == 0 then 0 else i.natAbs.log2 + 1) ≤ 1048576
  split
  · omega
  · rename_i h0
    have : i.natAbs ≠ 0 := fun z => h0 (beq_iff_eq.mpr (Int.natAbs_eq_zero.mp z))
    have := (Nat.log2_lt this).mpr h
    omega
theorem cutL_mem {α : Type} {l : List α} {lo hi : Option Int} {x : α} (h : x ∈ cutL l lo hi) : x ∈ l := List.mem_of_mem_drop (List.mem_of_mem_take h)
theorem cutL_len {α : Type} {l : List α} {lo hi : Option Int} : (cutL l lo hi).length ≤ l.length := by
  unfold cutL
  rw [List.length_take, List.length_drop]; omega
/-- the cell that is there, or the one put in its stead -/
theorem pick {ns : List Int} (hb : ∀ z ∈ ns, Builtin.Int.intBits z ≤ 1048576) {lo hi : Option Int} {d : Int} (hd : szM d) : ∃ c, atI ((cutL ns lo hi).map T.int ++ [T.int d]) 0 = some (T.int c) ∧ szM c := by
  cases e : cutL ns lo hi with
  | nil => exact ⟨d, atI_zero _ _, hd⟩
  | cons c r =>
    refine ⟨c, ?_, hb c (cutL_mem (lo := lo) (hi := hi) (by rw [e]; simp))⟩
    rw [List.map_cons, List.cons_append]
    exact atI_zero _ _
theorem c_pack {k : Nat} {ns : List Int} {j : Int} {Q E} (hl : ns.length ≤ 63) (hb : ∀ z ∈ ns, Builtin.Int.intBits z ≤ 1048576) (h0 : 0 ≤ j) (h1 : j ≤ 1000) (h : ∀ n : Int, 0 ≤ n → Q (.r 0) [.lst [.int n]]) : cfn tab ge up (k+2) n__law_pack [.t (.scr ns), .t (.int j)] [] Q E := by
  have big : (2 : Nat) ^ 20 ≤ 2 ^ 200 := by decide +kernel
  have e60 : (10 : Int) ^ Int.toNat 60 = 10 ^ 60 := rfl
  have sz : ∀ i : Int, 0 ≤ i → i < 10 ^ 400 → szM i := fun i h h' => szM_of (n := 2000) (by
    have e : (10 : Int) ^ 400 = ((10 ^ 400 : Nat) : Int) := by decide +kernel
    have : i.natAbs < 10 ^ 400 := by omega
    exact Nat.lt_trans this (by decide +kernel)) (by omega)
  have b400 : (10 : Int) ^ 60 * 2000000 < 10 ^ 400 := by decide +kernel
  have b1 : (100000000 : Int) < 10 ^ 400 := by decide +kernel
  refine cfn_in rfl ⟨rfl, ?_⟩
  conv => whnf
  refine ⟨?_⟩
  conv => whnf
  refine ⟨by decide +kernel, ?_⟩
  conv => whnf
  refine ⟨⟨by decide +kernel, by decide +kernel⟩, ?_⟩
  conv => whnf
  refine ⟨⟨by decide +kernel, sz _ (by omega) (by omega)⟩, ?_⟩
  conv => whnf
  refine ⟨by have := cutL_len (l := ns) (lo := some (j + 1)) (hi := some (j + 1 + 1)); simp only [List.length_map, List.length_singleton]; omega, ?_⟩
  obtain ⟨c, e1, hc⟩ := pick hb (lo := some (j + 1)) (hi := some (j + 1 + 1)) (d := 7907 * (j + 1) + 53) (sz _ (by omega) (by omega))
  conv => whnf
  rw [e1]
  conv => whnf
  refine callS_pure rfl ?_
  refine c_mixed hc fun m1 m10 m11 => ?_
  conv => whnf
  refine ⟨by decide +kernel, ?_⟩
  conv => whnf
  rw [e60]
  refine ⟨⟨sz _ (by omega) (by omega), by decide +kernel⟩, ?_⟩
  conv => whnf
  refine ⟨⟨by decide +kernel, sz _ (by omega) (by omega)⟩, ?_⟩
  conv => whnf
  refine ⟨by have := cutL_len (l := ns) (lo := some j) (hi := some (j + 1)); simp only [List.length_map, List.length_singleton]; omega, ?_⟩
  obtain ⟨c2, e2, hc2⟩ := pick hb (lo := some j) (hi := some (j + 1)) (d := 7907 * j + 53) (sz _ (by omega) (by omega))
  conv => whnf
  rw [e2]
  conv => whnf
  refine callS_pure rfl ?_
  refine c_mixed hc2 fun m2 m20 m21 => ?_
  conv => whnf
  refine h _ ?_
  have : 0 ≤ (0 * 10 ^ 60 + m1) * 10 ^ 60 := Int.mul_nonneg (by omega) (by decide +kernel)
  omega
end K06

set_option Elab.async false
set_option linter.all false
set_option maxRecDepth 100000
set_option maxHeartbeats 1000000
namespace K06
open MP PySem L2 TX TL
theorem Bd_add {j k : Nat} {a b : Rat} (h : Bd j a) (g : Bd k b) : Bd (j + k + 1) (a + b) := by
  rw [← add_eq]
  refine divInt_bd (den2 a b) (add_lt (mul_lt h.1 (by rw [Int.natAbs_natCast]; exact g.2)) ?_) ?_
  · rw [Nat.add_comm]
    exact mul_lt g.1 (by rw [Int.natAbs_natCast]; exact h.2)
  · exact Nat.lt_of_lt_of_le (mul_lt (by rw [Int.natAbs_natCast]; exact h.2) (by rw [Int.natAbs_natCast]; exact g.2)) (Nat.pow_le_pow_right (by decide) (by omega))
theorem Bd_neg {j : Nat} {a : Rat} (h : Bd j a) : Bd j (-a) := by
  refine ⟨?_, ?_⟩
  · show (-a.num).natAbs < _
    rw [Int.natAbs_neg]; exact h.1
  · exact h.2
theorem Bd_sub {j k : Nat} {a b : Rat} (h : Bd j a) (g : Bd k b) : Bd (j + k + 1) (a - b) := by
  rw [Rat.sub_eq_add_neg]
  exact Bd_add h (Bd_neg g)
theorem Bd_mul {j k : Nat} {a b : Rat} (h : Bd j a) (g : Bd k b) : Bd (j + k) (a * b) := by
  rw [← mul_eq]
  exact divInt_bd (den2 a b) (mul_lt h.1 g.1) (mul_lt (by rw [Int.natAbs_natCast]; exact h.2) (by rw [Int.natAbs_natCast]; exact g.2))
theorem Bd_div {j k : Nat} {a b : Rat} (h0 : b ≠ 0) (h : Bd j a) (g : Bd k b) : Bd (j + k) (a / b) := by
  rw [← div_eq a b h0]
  exact divInt_bd (Int.mul_ne_zero (by have := a.den_nz; omega) (fun z => h0 (Rat.num_eq_zero.mp z))) (mul_lt h.1 (by rw [Int.natAbs_natCast]; exact g.2)) (mul_lt (by rw [Int.natAbs_natCast]; exact h.2) g.1)
theorem _root_.MP.Bd.up {j : Nat} {q : Rat} (h : Bd j q) (hk : j ≤ 100 := by omega) : Bd 100 q := h.mono hk
theorem eqb_is {a b : Rat} (h : a = b) : (num a).eqb (num b) = true := by rw [eqb_num]; exact decide_eq_true h
theorem num0 : num 0 = .tup [.int 0, .int 1] := rfl
theorem num1 : num 1 = .tup [.int 1, .int 1] := rfl

theorem c_sums {k : Nat} {a b c : Rat} {Q E} (ha : Bd 10 a) (hb : Bd 10 b) (hc : Bd 10 c) (h : Q (.t (.bl true)) []) : cfn tab ge up (k+4) n__law_sums_right [.t (num a), .t (num b), .t (num c)] [] Q E := by
  have hab := Bd_add ha hb
  have hba := Bd_add hb ha
  have hbc := Bd_add hb hc
  have mab := Bd_mul ha hb
  have mac := Bd_mul ha hc
  have sab := Bd_sub ha hb
  refine cfn_in rfl ⟨rfl, ?_⟩
  conv => whnf
  refine callS_pure rfl ?_
  refine c_added ha.up hb.up ?_
  conv => whnf
  refine callS_pure rfl ?_
  refine c_added hb.up ha.up ?_
  conv => whnf
  refine ⟨rfl, rfl, ?_⟩
  rw [eqb_is (Rat.add_comm a b)]
  conv => whnf
  refine callS_pure rfl ?_
  refine c_added ha.up hb.up ?_
  conv => whnf
  refine callS_pure rfl ?_
  refine c_added hab.up hc.up ?_
  conv => whnf
  refine callS_pure rfl ?_
  refine c_added hb.up hc.up ?_
  conv => whnf
  refine callS_pure rfl ?_
  refine c_added ha.up hbc.up ?_
  conv => whnf
  refine ⟨rfl, rfl, ?_⟩
  rw [eqb_is (Rat.add_assoc a b c)]
  conv => whnf
  refine callS_pure rfl ?_
  refine c_multiplied ha.up hb.up ?_
  conv => whnf
  refine callS_pure rfl ?_
  refine c_multiplied hb.up ha.up ?_
  conv => whnf
  refine ⟨rfl, rfl, ?_⟩
  rw [eqb_is (Rat.mul_comm a b)]
  conv => whnf
  refine callS_pure rfl ?_
  refine c_added hb.up hc.up ?_
  conv => whnf
  refine callS_pure rfl ?_
  refine c_multiplied ha.up hbc.up ?_
  conv => whnf
  refine callS_pure rfl ?_
  refine c_multiplied ha.up hb.up ?_
  conv => whnf
  refine callS_pure rfl ?_
  refine c_multiplied ha.up hc.up ?_
  conv => whnf
  refine callS_pure rfl ?_
  refine c_added mab.up mac.up ?_
  conv => whnf
  refine ⟨rfl, rfl, ?_⟩
  rw [eqb_is (Rat.mul_add a b c)]
  conv => whnf
  refine callS_pure rfl ?_
  refine c_added ha.up hb.up ?_
  conv => whnf
  refine callS_pure rfl ?_
  refine c_taken hab.up hb.up ?_
  conv => whnf
  refine ⟨rfl, rfl, ?_⟩
  rw [eqb_is (show a + b - b = a by grind)]
  conv => whnf
  refine callS_pure rfl ?_
  refine c_taken ha.up hb.up ?_
  conv => whnf
  refine callS_pure rfl ?_
  refine c_added sab.up hb.up ?_
  conv => whnf
  refine ⟨rfl, rfl, ?_⟩
  rw [eqb_is (show a - b + b = a by grind)]
  conv => whnf
  refine callS_pure rfl ?_
  refine c_taken ha.up ha.up ?_
  conv => whnf
  refine ⟨rfl, rfl, ?_⟩
  rw [← num0, eqb_is (show a - a = 0 by grind)]
  exact h
theorem c_partr {k : Nat} {a b : Rat} {Q E} (ha : Bd 10 a) (hb : Bd 10 b) (h : Q (.t (.bl true)) []) : cfn tab ge up (k+4) n__law_parted_right [.t (num a), .t (num b)] [] Q E := by
  have mab := Bd_mul ha hb
  refine cfn_in rfl ⟨rfl, ?_⟩
  conv => whnf
  refine ⟨rfl, rfl, ?_⟩
  rw [← num0, eqb_num]
  by_cases h0 : b = 0
  · rw [decide_eq_true h0]
    conv => whnf
    exact h
  rw [decide_eq_false h0]
  conv => whnf
  have dab := Bd_div h0 ha hb
  refine callS_pure rfl ?_
  refine c_multiplied ha.up hb.up ?_
  conv => whnf
  refine callS_pure rfl ?_
  refine c_parted h0 mab.up hb.up ?_
  conv => whnf
  refine ⟨rfl, rfl, ?_⟩
  rw [eqb_is (show a * b / b = a by grind)]
  conv => whnf
  refine callS_pure rfl ?_
  refine c_parted h0 ha.up hb.up ?_
  conv => whnf
  refine callS_pure rfl ?_
  refine c_multiplied dab.up hb.up ?_
  conv => whnf
  refine ⟨rfl, rfl, ?_⟩
  rw [eqb_is (show a / b * b = a by grind)]
  conv => whnf
  refine callS_pure rfl ?_
  refine c_parted h0 hb.up hb.up ?_
  conv => whnf
  refine ⟨rfl, rfl, ?_⟩
  rw [← num1, eqb_is (show b / b = 1 by grind)]
  exact h
end K06

set_option Elab.async false
set_option linter.all false
set_option maxRecDepth 100000
set_option maxHeartbeats 1000000
namespace K06
open MP PySem L2 TX TL
theorem tri (a b : Rat) : List.count true [decide (a < b), decide (b < a), decide (a = b)] = 1 := by
  rcases (show a < b ∨ a = b ∨ b < a by grind) with h | h | h
  · have h1 : ¬ b < a := by grind
    have h2 : ¬ a = b := by grind
    rw [decide_eq_true h, decide_eq_false h1, decide_eq_false h2]; rfl
  · subst h
    have h1 : ¬ a < a := by grind
    rw [decide_eq_false h1, decide_eq_true rfl]; rfl
  · have h1 : ¬ a < b := by grind
    have h2 : ¬ a = b := by grind
    rw [decide_eq_true h, decide_eq_false h1, decide_eq_false h2]; rfl
theorem sq0 (c : Rat) : 0 ≤ c * c := by
  rcases Rat.le_total (a := 0) (b := c) with h | h
  · exact Rat.mul_nonneg h h
  · have : c * c = (-c) * (-c) := by grind
    rw [this]
    exact Rat.mul_nonneg (by grind) (by grind)
theorem above0 (c : Rat) : 0 < c * c + Rat.divInt 1 7 := by
  have := sq0 c
  have h : Rat.divInt 1 7 = (1 : Rat) / 7 := by decide +kernel
  rw [h]
  grind
theorem less_add (a b c : Rat) : decide (a + c < b + c) = decide (a < b) := decide_eq_decide.mpr (by constructor <;> intro <;> grind)
theorem less_mul (a b w : Rat) (hw : 0 < w) : decide (a * w < b * w) = decide (a < b) := decide_eq_decide.mpr (Rat.mul_lt_mul_right hw)
theorem eqb_bl {x y : Bool} (h : x = y) : (T.bl x).eqb (T.bl y) = true := beq_iff_eq.mpr h
theorem c_lessr {k : Nat} {a b c : Rat} {Q E} (ha : Bd 10 a) (hb : Bd 10 b) (hc : Bd 10 c) (h : Q (.t (.bl true)) []) : cfn tab ge up (k+4) n__law_less_right [.t (num a), .t (num b), .t (num c)] [] Q E := by
  have hac := Bd_add ha hc
  have hbc := Bd_add hb hc
  have mcc := Bd_mul hc hc
  have h7 : Bd 10 (Rat.divInt 1 7) := divInt_bd (by decide) (by decide) (by decide)
  have hab := Bd_add mcc h7
  have maa := Bd_mul ha hab
  have mba := Bd_mul hb hab
  refine cfn_in rfl ⟨rfl, ?_⟩
  conv => whnf
  refine callS_pure rfl ?_
  refine c_is_less ha.up hb.up ?_
  conv => whnf
  refine callS_pure rfl ?_
  refine c_is_less hb.up ha.up ?_
  conv => whnf
  refine ⟨rfl, rfl, ?_⟩
  rw [eqb_num]
  conv => whnf
  refine ⟨?_⟩
  conv => whnf
  rw [tri]
  refine ⟨rfl, rfl, ?_⟩
  conv => whnf
  refine callS_pure rfl ?_
  refine c_added ha.up hc.up ?_
  conv => whnf
  refine callS_pure rfl ?_
  refine c_added hb.up hc.up ?_
  conv => whnf
  refine callS_pure rfl ?_
  refine c_is_less hac.up hbc.up ?_
  conv => whnf
  refine ⟨rfl, rfl, ?_⟩
  rw [eqb_bl (less_add a b c)]
  conv => whnf
  refine callS_pure rfl ?_
  refine c_multiplied hc.up hc.up ?_
  conv => whnf
  refine callS_pure rfl ?_
  refine c_number (by decide) (by decide +kernel) ?_
  conv => whnf
  refine callS_pure rfl ?_
  refine c_added mcc.up h7.up ?_
  conv => whnf
  refine callS_pure rfl ?_
  refine c_multiplied ha.up hab.up ?_
  conv => whnf
  refine callS_pure rfl ?_
  refine c_multiplied hb.up hab.up ?_
  conv => whnf
  refine callS_pure rfl ?_
  refine c_is_less maa.up mba.up ?_
  conv => whnf
  refine ⟨rfl, rfl, ?_⟩
  rw [eqb_bl (less_mul a b _ (above0 c))]
  conv => whnf
  refine callS_pure rfl ?_
  rw [← num0]
  refine c_is_less ⟨by decide +kernel, by decide +kernel⟩ hab.up ?_
  rw [decide_eq_true (above0 c)]
  conv => whnf
  exact h
theorem c_right {k : Nat} {a b c : Rat} {Q E} (ha : Bd 10 a) (hb : Bd 10 b) (hc : Bd 10 c) (h : Q (.t (.bl true)) []) : cfn tab ge up (k+5) n__law_right [.t (num a), .t (num b), .t (num c)] [] Q E := by
  refine cfn_in rfl ⟨rfl, ?_⟩
  conv => whnf
  refine callS_pure rfl ?_
  refine c_sums ha hb hc ?_
  conv => whnf
  refine callS_pure rfl ?_
  refine c_partr ha hb ?_
  conv => whnf
  refine callS_pure rfl ?_
  refine c_lessr ha hb hc ?_
  conv => whnf
  exact h
theorem Lo_num (q : Rat) : Lo q.num (q.den : Int) := ⟨by have := q.den_nz; omega, by
  have := q.reduced
  exact this⟩
theorem take_at {k i n s S Q E} (hi : nth S i = some (.lst [.int n])) (hs : 0 < s) (hs2 : s.natAbs.log2 < 9000) (h : Q (.t (.int (n % s))) (S.set i (.lst [.int (n / s)]))) : Bx (callS (cfn tab ge up (k+1)) n__law_take [.r i, .t (.int s)] S Q E) := by
  refine callS_lst (ts := [.int s]) hi ?_
  refine c_take hs hs2 ?_
  exact h
theorem ixN_nat {n i : Nat} (h : i < n) : ixN n (i : Int) = some i := by
  unfold ixN
  rw [if_pos (by omega), if_pos (by omega)]; rfl
theorem push_at {S : Sto} {i : Nat} {l : List T} {y : T} {Q : Post} (hi : nth S i = some (.lst l)) (hz : l.length < 16777216) (q : Q (.t .non) (S.set i (.lst (l ++ [y])))) : Bx (meD .append (.r i) [.t y] S Q) := by
  refine ⟨?_⟩
  unfold meD
  simp only [hi]
  exact ⟨hz, q⟩
theorem lput_at {S : Sto} {i j : Nat} {l : List T} {y : T} {k : Sto → Prop} (hi : nth S i = some (.lst l)) (hj : j < l.length) (q : k (S.set i (.lst (l.set j y)))) : Bx (setD (.r i) (.t (.int j)) (.t y) S k) := by
  refine ⟨?_⟩
  unfold setD
  simp only [hi, ixN_nat hj]
  exact q
theorem tyApp {S : Sto} {i : Nat} {l : List T} (hi : nth S i = some (.lst l)) : tyM .append (.r i) S = true := by
  unfold tyM
  simp only [hi]
theorem nth_ne {S : Sto} {i j : Nat} {o p : Ob} (h : nth S j = some p) (hn : i ≠ j) : nth (S.set i o) j = some p := by rw [nth_set_ne hn]; exact h
theorem rdT_at {S : Sto} {i : Nat} {l : List T} (hi : nth S i = some (.lst l)) : rdT (.r i) S = some (.lst l) := by
  unfold rdT
  simp only [hi]
theorem NB_of {q : Rat} (h : Bd 40 q) : NB q.num ∧ NB (q.den : Int) := ⟨Nat.lt_of_lt_of_le h.1 (by decide +kernel), Nat.lt_of_lt_of_le (by rw [Int.natAbs_natCast]; exact h.2) (by decide +kernel)⟩
theorem rem_bd (n s : Int) (h : 0 < s) : 0 ≤ n % s ∧ n % s < s := ⟨Int.emod_nonneg n (by omega), Int.emod_lt_of_pos n h⟩
theorem c_law {k : Nat} {ns : List Int} {Q E} (hl : ns.length ≤ 63) (hb : ∀ z ∈ ns, Builtin.Int.intBits z ≤ 1048576) (h : Q (.t (.bl true)) []) : cfn tab ge up (k+6) n_law [.t (.scr ns)] [] Q E := by
  refine cfn_in rfl ⟨rfl, ?_⟩
  conv => whnf
  have hm : 1 ≤ (if (if (32 : Int) < (ns.length : Int) then (32 : Int) else (ns.length : Int)) > 1 then (if (32 : Int) < (ns.length : Int) then (32 : Int) else (ns.length : Int)) else 1) ∧ (if (if (32 : Int) < (ns.length : Int) then (32 : Int) else (ns.length : Int)) > 1 then (if (32 : Int) < (ns.length : Int) then (32 : Int) else (ns.length : Int)) else 1) ≤ 32 := by
    split <;> split <;> omega
  generalize (if (if (32 : Int) < (ns.length : Int) then (32 : Int) else (ns.length : Int)) > 1 then (if (32 : Int) < (ns.length : Int) then (32 : Int) else (ns.length : Int)) else 1) = m at hm ⊢
  refine ⟨⟨by decide, ⟨by decide, by decide⟩, ⟨by omega, by omega⟩, by decide, by decide⟩, ?_⟩
  conv => whnf
  refine for_inv (fun l σ S => (∀ y ∈ l, ∃ j : Int, y = .int j ∧ 0 ≤ j ∧ j ≤ 1000) ∧ ∃ a1 a2 a3 a4 a5 a6, σ = [some (.t (.scr ns)), a1, a2, a3, a4, a5, a6]) ?_ ?_ ?_
  · rintro x r σ S ⟨hy, a1, a2, a3, a4, a5, a6, rfl⟩
    obtain ⟨j, rfl, j0, j1⟩ := hy x (by simp)
    conv => whnf
    refine callS_pure rfl ?_
    refine c_pack hl hb j0 j1 fun n hn => ?_
    conv => whnf
    refine ⟨⟨by decide, by decide⟩, ?_⟩
    conv => whnf
    refine for_inv (fun l σ S => ∃ y4 y5 y6 p q n xs, σ = [some (.t (.scr ns)), some (.t (.int j)), some (.r p), some (.r q), y4, y5, y6] ∧ p ≠ q ∧ nth S p = some (.lst [.int n]) ∧ nth S q = some (.lst xs) ∧
      (∀ x ∈ xs, ∃ r : Rat, x = num r ∧ Bd 10 r) ∧ xs.length ≤ 3 ∧ l = [T.int (0 : Nat), T.int (1 : Nat), T.int (2 : Nat)].drop xs.length) ?_ ?_ ?_
    · rintro x r2 σ S2 ⟨y4, y5, y6, p, q, n, xs, rfl, hpq, hp, hq, hx, h3, hL⟩
      have ht : x = T.int (xs.length : Nat) ∧ xs.length < 3 ∧ r2 = [T.int (0 : Nat), T.int (1 : Nat), T.int (2 : Nat)].drop (xs.length + 1) := by
        match hl : xs.length, h3 with
        | 0, _ => rw [hl] at hL; exact ⟨(List.cons.inj hL).1, by decide, (List.cons.inj hL).2⟩
        | 1, _ => rw [hl] at hL; exact ⟨(List.cons.inj hL).1, by decide, (List.cons.inj hL).2⟩
        | 2, _ => rw [hl] at hL; exact ⟨(List.cons.inj hL).1, by decide, (List.cons.inj hL).2⟩
        | 3, _ => rw [hl] at hL; cases hL
      obtain ⟨rfl, ht, hr⟩ := ht
      conv => whnf
      refine ⟨by decide, ?_⟩
      conv => whnf
      refine ⟨⟨by decide +kernel, by decide +kernel⟩, ?_⟩
      conv => whnf
      refine take_at hp (by decide +kernel) (by decide +kernel) ?_
      conv => whnf
      refine ⟨by decide, ?_⟩
      conv => whnf
      have p6 : (10 : Int) ^ Int.toNat 6 = 1000000 := by decide
      rw [p6]
      have hp1 := nth_set_eq (x := Ob.lst [.int (n / (2 * 1000000 + 1))]) hp
      have hq1 := nth_ne (o := .lst [.int (n / (2 * 1000000 + 1))]) hq hpq
      have r1 := rem_bd n (2 * 1000000 + 1) (by decide)
      generalize n / (2 * 1000000 + 1) = n1 at hp1 hq1 ⊢
      generalize n % (2 * 1000000 + 1) = t at r1 ⊢
      generalize S2.set p (.lst [.int n1]) = S3 at hp1 hq1 ⊢
      rw [tyApp hq1]
      conv => whnf
      refine take_at hp1 (by decide +kernel) (by decide +kernel) ?_
      conv => whnf
      refine callS_pure rfl ?_
      have r2 := rem_bd n1 100 (by decide)
      have hp2 := nth_set_eq (x := Ob.lst [.int (n1 / 100)]) hp1
      have hq2 := nth_ne (o := .lst [.int (n1 / 100)]) hq1 hpq
      generalize n1 / 100 = n2 at hp2 hq2 ⊢
      generalize n1 % 100 = b at r2 ⊢
      generalize S3.set p (.lst [.int n2]) = S4 at hp2 hq2 ⊢
      have b1 : Bd 10 (Rat.divInt (t - 1000000) (1 + b)) := divInt_bd (by omega) (by omega) (by omega)
      refine c_number (by omega) (Nat.lt_trans (show (1 + b).natAbs < 10 ^ 10 by omega) (by decide +kernel)) ?_
      generalize Rat.divInt (t - 1000000) (1 + b) = z1 at b1 ⊢
      conv => whnf
      rw [show apS S4 [] = S4 from rfl]
      refine push_at hq2 (by omega) ?_
      conv => whnf
      have hp3 := nth_ne (o := .lst (xs ++ [num z1])) hp2 (Ne.symm hpq)
      have hq3 := nth_set_eq (x := Ob.lst (xs ++ [num z1])) hq2
      have hx3 : ∀ x ∈ xs ++ [num z1], ∃ r : Rat, x = num r ∧ Bd 10 r := fun x h => by
        rcases List.mem_append.mp h with h | h
        · exact hx x h
        · exact ⟨z1, List.mem_singleton.mp h, b1⟩
      have hl3 : (xs ++ [num z1]).length = xs.length + 1 := by simp
      generalize xs ++ [num z1] = xs3 at hp3 hq3 hx3 hl3 ⊢
      generalize S4.set q (.lst xs3) = S5 at hp3 hq3 ⊢
      refine take_at hp3 (by decide +kernel) (by decide +kernel) ?_
      conv => whnf
      refine ⟨rfl, rfl, ?_⟩
      conv => whnf
      have hp4 := nth_set_eq (x := Ob.lst [.int (n2 / 4)]) hp3
      have hq4 := nth_ne (o := .lst [.int (n2 / 4)]) hq3 hpq
      generalize n2 / 4 = n4 at hp4 hq4 ⊢
      generalize S5.set p (.lst [.int n4]) = S6 at hp4 hq4 ⊢
      refine br_of (fun e => ?_) (fun e => ?_)
      · conv => whnf
        refine ⟨⟨szM_of (n := 100) (Nat.lt_trans (show (t - 1000000).natAbs < 10 ^ 10 by omega) (by decide +kernel)) (by omega), by decide +kernel⟩, ?_⟩
        conv => whnf
        refine ⟨by decide, ?_⟩
        conv => whnf
        refine take_at hp4 (by decide +kernel) (by decide +kernel) ?_
        conv => whnf
        rw [p6]
        have r5 := rem_bd n4 1000000 (by decide)
        have hp5 := nth_set_eq (x := Ob.lst [.int (n4 / 1000000)]) hp4
        have hq5 := nth_ne (o := .lst [.int (n4 / 1000000)]) hq4 hpq
        generalize n4 / 1000000 = n5 at hp5 hq5 ⊢
        generalize n4 % 1000000 = b5 at r5 ⊢
        generalize S6.set p (.lst [.int n5]) = S7 at hp5 hq5 ⊢
        have b2 : Bd 10 (Rat.divInt ((t - 1000000) * 999 + (xs.length : Nat)) (1 + b5)) := divInt_bd (by omega) (by omega) (by omega)
        refine callS_pure rfl ?_
        refine c_number (by omega) (Nat.lt_trans (show (1 + b5).natAbs < 10 ^ 10 by omega) (by decide +kernel)) ?_
        generalize Rat.divInt ((t - 1000000) * 999 + (xs.length : Nat)) (1 + b5) = z2 at b2 ⊢
        conv => whnf
        rw [show apS S7 [] = S7 from rfl]
        refine lput_at hq5 (by omega) ?_
        conv => whnf
        have hp6 := nth_ne (o := .lst (xs3.set xs.length (num z2))) hp5 (Ne.symm hpq)
        have hq6 := nth_set_eq (x := Ob.lst (xs3.set xs.length (num z2))) hq5
        refine ⟨_, _, _, p, q, _, _, rfl, hpq, hp6, hq6, fun x h => ?_, by rw [List.length_set]; omega, by rw [List.length_set, hl3]; exact hr⟩
        rcases List.mem_or_eq_of_mem_set h with h | h
        · exact hx3 x h
        · exact ⟨z2, h, b2⟩
      · exact ⟨_, _, _, p, q, _, _, rfl, hpq, hp4, hq4, hx3, by omega, by rw [hl3]; exact hr⟩
    · rintro σ S2 ⟨y4, y5, y6, p, q, n, xs, rfl, hpq, hp, hq, hx, h3, hL⟩
      have hx2 : ∃ u v w : Rat, xs = [num u, num v, num w] ∧ Bd 10 u ∧ Bd 10 v ∧ Bd 10 w := by
        match xs, h3, hL, hx with
        | [], _, hL, _ => cases hL
        | [_], _, hL, _ => cases hL
        | [_, _], _, hL, _ => cases hL
        | [x, y, z], _, _, hx =>
          obtain ⟨u, rfl, bu⟩ := hx x (by simp)
          obtain ⟨v, rfl, bv⟩ := hx y (by simp)
          obtain ⟨w, rfl, bw⟩ := hx z (by simp)
          exact ⟨u, v, w, rfl, bu, bv, bw⟩
      obtain ⟨u, v, w, rfl, bu, bv, bw⟩ := hx2
      conv => whnf
      rw [hq]
      conv => whnf
      rw [hq]
      conv => whnf
      rw [hq]
      conv => whnf
      refine callS_pure rfl ?_
      refine c_right bu bv bw ?_
      conv => whnf
      rw [show apS S2 [] = S2 from rfl, hq]
      conv => whnf
      rw [hq]
      conv => whnf
      rw [hq]
      conv => whnf
      refine callS_pure rfl ?_
      refine c_right bw bw bu ?_
      conv => whnf
      rw [show apS S2 [] = S2 from rfl, hq]
      conv => whnf
      rw [hq]
      conv => whnf
      refine callS_pure rfl ?_
      refine c_added bu.up bv.up ?_
      conv => whnf
      rw [show apS S2 [] = S2 from rfl, hq]
      conv => whnf
      rw [hq]
      conv => whnf
      refine callS_pure rfl ?_
      refine c_multiplied bv.up bw.up ?_
      conv => whnf
      rw [show apS S2 [] = S2 from rfl, rdT_at hq]
      conv => whnf
      refine ⟨Nat.le_of_ble_eq_true rfl, ?_⟩
      conv => whnf
      refine for_inv (fun l σ S => (∃ a4 a5 a6, σ = [some (.t (.scr ns)), some (.t (.int j)), some (.r p), some (.r q), a4, a5, a6]) ∧ ∀ x ∈ l, ∃ r : Rat, x = num r ∧ Bd 40 r) ?_ ?_ ?_
      · rintro x r3 σ S4 ⟨⟨a4, a5, a6, rfl⟩, hx⟩
        obtain ⟨z, rfl, bz⟩ := hx x (by simp)
        obtain ⟨n1, n2⟩ := NB_of bz
        conv => whnf
        refine callS_pure rfl ?_
        refine c_is_number (Lo_num z) ?_
        conv => whnf
        refine callS_pure rfl ?_
        refine c_show n1 n2 ?_
        conv => whnf
        refine callS_pure rfl ?_
        refine c_read (Lo_num z) n1 n2 ?_
        conv => whnf
        refine ⟨rfl, rfl, ?_⟩
        rw [eqb_is (show z = z from rfl)]
        conv => whnf
        exact ⟨⟨_, _, _, rfl⟩, fun y h => hx y (by simp [h])⟩
      · rintro σ S4 ⟨⟨a4, a5, a6, rfl⟩, _⟩
        exact ⟨fun y h => hy y (by simp [h]), _, _, _, _, _, _, rfl⟩
      · refine ⟨⟨_, _, _, rfl⟩, fun x h => ?_⟩
        have h : x ∈ [num u, num v, num w] ++ [num (u + v), num (v * w)] := h
        simp only [List.cons_append, List.nil_append, List.mem_cons, List.not_mem_nil, or_false] at h
        rcases h with h | h | h | h | h
        · exact ⟨u, h, bu.mono (by omega)⟩
        · exact ⟨v, h, bv.mono (by omega)⟩
        · exact ⟨w, h, bw.mono (by omega)⟩
        · exact ⟨_, h, (Bd_add bu bv).mono (by omega)⟩
        · exact ⟨_, h, (Bd_mul bv bw).mono (by omega)⟩
    · refine ⟨_, _, _, S.length, (apS S [Ob.lst [T.int n]]).length, n, [], rfl, ?_, nth_old nth_new, nth_new, by simp, by simp, rfl⟩
      show S.length ≠ (S ++ [Ob.lst [T.int n]]).length
      rw [List.length_append]
      simp
  · rintro σ S ⟨_, a1, a2, a3, a4, a5, a6, rfl⟩
    conv => whnf
    exact h
  · refine ⟨fun y hy => ?_, _, _, _, _, _, _, rfl⟩
    obtain ⟨i, hi, rfl⟩ := rngC_mem hy
    exact ⟨_, rfl, by omega, by omega⟩
end K06

set_option Elab.async false
set_option linter.all false
set_option maxRecDepth 100000
set_option maxHeartbeats 1000000
namespace K06
open MP PySem L2 PySem.Spec PyProof.Rows
/-- the law's promise -/
def spLaw (K : PySem.W.Frag) : Sp := fun vs H Q _ => ∃ (a : Addr) (ns : List Int), vs = [.ref a] ∧ SqL K H a (ns.map V.int) ∧ ns.length ≤ 63 ∧ (∀ z ∈ ns, Builtin.Int.intBits z ≤ 1048576) ∧ ∀ H', Q (.bl true) H'
theorem cx_no {P : Program} {w : World} {H : Hp} {s : Shared} {e : Value} {s' : Shared} (h : L2.CX P w [] H s (fun _ _ _ => False) e s') : False := by
  obtain ⟨_, _, _, _, _, _, _, _, _, _, _, _, z⟩ := h
  exact z
def pg (P : Program) (w : World) (K : PySem.W.Frag) (mg : Str → Option Value) (base : Heap) (fs : List Addr) : Pg where
  G := { K := K, cad := fun _ => 0, fad := fun i => fs.getD i 0, fnm := nm.fd, xf := fun _ => none, nf := nm.nf, kf := fun _ => false }
  nm := nm
  tab := tab
  ge := ge
  up := up
  P := P
  w := w
  mg := mg
  base := base
theorem all_mk {P : Program} {w : World} {K : PySem.W.Frag} {h : Heap} {mg : Str → Option Value} {fa : Addr} {f0 : Addr} {f1 : Addr} {f2 : Addr} {f3 : Addr} {f4 : Addr} {f5 : Addr} {f6 : Addr} {f7 : Addr} {f8 : Addr} {f9 : Addr} {f10 : Addr} {f11 : Addr} {f12 : Addr} {f13 : Addr} {f14 : Addr} {f15 : Addr} {f16 : Addr} {f17 : Addr} {f18 : Addr} {f19 : Addr} {f20 : Addr} (X : K.In h) (G : h.Ns mainGlobals mg) (hfa : mg ("law" : Str) = some (.ref fa))
    {od0 an0 : Option Addr} {sl0 : Array (Option Value)} {oc0 kV0 dc0 pm0 cd0 ct0 : Value}
    (a0 : PySem.W.nsIn K mainGlobals "law" = some (some (.ref f0))) (l0 : K.lookup f0 = some ⟨oc0, od0, .func (PySem.W.fnOf "law" "law" (defArgs s_law) (defBody s_law) (defScope s_law) .none kV0 dc0 pm0 an0 cd0 ct0), sl0⟩) (c0 : PySem.W.codeIn K cd0 "law" = true) (k0 : PySem.W.keepIn K (.ref f0) = true)
    {od1 an1 : Option Addr} {sl1 : Array (Option Value)} {oc1 kV1 dc1 pm1 cd1 ct1 : Value}
    (a1 : PySem.W.nsIn K mainGlobals "multiplied" = some (some (.ref f1))) (l1 : K.lookup f1 = some ⟨oc1, od1, .func (PySem.W.fnOf "multiplied" "multiplied" (defArgs s_multiplied) (defBody s_multiplied) (defScope s_multiplied) .none kV1 dc1 pm1 an1 cd1 ct1), sl1⟩) (c1 : PySem.W.codeIn K cd1 "multiplied" = true) (k1 : PySem.W.keepIn K (.ref f1) = true)
    {od2 an2 : Option Addr} {sl2 : Array (Option Value)} {oc2 kV2 dc2 pm2 cd2 ct2 : Value}
    (a2 : PySem.W.nsIn K mainGlobals "added" = some (some (.ref f2))) (l2 : K.lookup f2 = some ⟨oc2, od2, .func (PySem.W.fnOf "added" "added" (defArgs s_added) (defBody s_added) (defScope s_added) .none kV2 dc2 pm2 an2 cd2 ct2), sl2⟩) (c2 : PySem.W.codeIn K cd2 "added" = true) (k2 : PySem.W.keepIn K (.ref f2) = true)
    {od3 an3 : Option Addr} {sl3 : Array (Option Value)} {oc3 kV3 dc3 pm3 cd3 ct3 : Value}
    (a3 : PySem.W.nsIn K mainGlobals "read_number" = some (some (.ref f3))) (l3 : K.lookup f3 = some ⟨oc3, od3, .func (PySem.W.fnOf "read_number" "read_number" (defArgs s_read_number) (defBody s_read_number) (defScope s_read_number) .none kV3 dc3 pm3 an3 cd3 ct3), sl3⟩) (c3 : PySem.W.codeIn K cd3 "read_number" = true) (k3 : PySem.W.keepIn K (.ref f3) = true)
    {od4 an4 : Option Addr} {sl4 : Array (Option Value)} {oc4 kV4 dc4 pm4 cd4 ct4 : Value}
    (a4 : PySem.W.nsIn K mainGlobals "show_number" = some (some (.ref f4))) (l4 : K.lookup f4 = some ⟨oc4, od4, .func (PySem.W.fnOf "show_number" "show_number" (defArgs s_show_number) (defBody s_show_number) (defScope s_show_number) .none kV4 dc4 pm4 an4 cd4 ct4), sl4⟩) (c4 : PySem.W.codeIn K cd4 "show_number" = true) (k4 : PySem.W.keepIn K (.ref f4) = true)
    {od5 an5 : Option Addr} {sl5 : Array (Option Value)} {oc5 kV5 dc5 pm5 cd5 ct5 : Value}
    (a5 : PySem.W.nsIn K mainGlobals "is_number" = some (some (.ref f5))) (l5 : K.lookup f5 = some ⟨oc5, od5, .func (PySem.W.fnOf "is_number" "is_number" (defArgs s_is_number) (defBody s_is_number) (defScope s_is_number) .none kV5 dc5 pm5 an5 cd5 ct5), sl5⟩) (c5 : PySem.W.codeIn K cd5 "is_number" = true) (k5 : PySem.W.keepIn K (.ref f5) = true)
    {od6 an6 : Option Addr} {sl6 : Array (Option Value)} {oc6 kV6 dc6 pm6 cd6 ct6 : Value}
    (a6 : PySem.W.nsIn K mainGlobals "_law_right" = some (some (.ref f6))) (l6 : K.lookup f6 = some ⟨oc6, od6, .func (PySem.W.fnOf "_law_right" "_law_right" (defArgs s__law_right) (defBody s__law_right) (defScope s__law_right) .none kV6 dc6 pm6 an6 cd6 ct6), sl6⟩) (c6 : PySem.W.codeIn K cd6 "_law_right" = true) (k6 : PySem.W.keepIn K (.ref f6) = true)
    {od7 an7 : Option Addr} {sl7 : Array (Option Value)} {oc7 kV7 dc7 pm7 cd7 ct7 : Value}
    (a7 : PySem.W.nsIn K mainGlobals "_law_take" = some (some (.ref f7))) (l7 : K.lookup f7 = some ⟨oc7, od7, .func (PySem.W.fnOf "_law_take" "_law_take" (defArgs s__law_take) (defBody s__law_take) (defScope s__law_take) .none kV7 dc7 pm7 an7 cd7 ct7), sl7⟩) (c7 : PySem.W.codeIn K cd7 "_law_take" = true) (k7 : PySem.W.keepIn K (.ref f7) = true)
    {od8 an8 : Option Addr} {sl8 : Array (Option Value)} {oc8 kV8 dc8 pm8 cd8 ct8 : Value}
    (a8 : PySem.W.nsIn K mainGlobals "number" = some (some (.ref f8))) (l8 : K.lookup f8 = some ⟨oc8, od8, .func (PySem.W.fnOf "number" "number" (defArgs s_number) (defBody s_number) (defScope s_number) .none kV8 dc8 pm8 an8 cd8 ct8), sl8⟩) (c8 : PySem.W.codeIn K cd8 "number" = true) (k8 : PySem.W.keepIn K (.ref f8) = true)
    {od9 an9 : Option Addr} {sl9 : Array (Option Value)} {oc9 kV9 dc9 pm9 cd9 ct9 : Value}
    (a9 : PySem.W.nsIn K mainGlobals "_law_pack" = some (some (.ref f9))) (l9 : K.lookup f9 = some ⟨oc9, od9, .func (PySem.W.fnOf "_law_pack" "_law_pack" (defArgs s__law_pack) (defBody s__law_pack) (defScope s__law_pack) .none kV9 dc9 pm9 an9 cd9 ct9), sl9⟩) (c9 : PySem.W.codeIn K cd9 "_law_pack" = true) (k9 : PySem.W.keepIn K (.ref f9) = true)
    {od10 an10 : Option Addr} {sl10 : Array (Option Value)} {oc10 kV10 dc10 pm10 cd10 ct10 : Value}
    (a10 : PySem.W.nsIn K mainGlobals "number_in" = some (some (.ref f10))) (l10 : K.lookup f10 = some ⟨oc10, od10, .func (PySem.W.fnOf "number_in" "number_in" (defArgs s_number_in) (defBody s_number_in) (defScope s_number_in) .none kV10 dc10 pm10 an10 cd10 ct10), sl10⟩) (c10 : PySem.W.codeIn K cd10 "number_in" = true) (k10 : PySem.W.keepIn K (.ref f10) = true)
    {od11 an11 : Option Addr} {sl11 : Array (Option Value)} {oc11 kV11 dc11 pm11 cd11 ct11 : Value}
    (a11 : PySem.W.nsIn K mainGlobals "common" = some (some (.ref f11))) (l11 : K.lookup f11 = some ⟨oc11, od11, .func (PySem.W.fnOf "common" "common" (defArgs s_common) (defBody s_common) (defScope s_common) .none kV11 dc11 pm11 an11 cd11 ct11), sl11⟩) (c11 : PySem.W.codeIn K cd11 "common" = true) (k11 : PySem.W.keepIn K (.ref f11) = true)
    {od12 an12 : Option Addr} {sl12 : Array (Option Value)} {oc12 kV12 dc12 pm12 cd12 ct12 : Value}
    (a12 : PySem.W.nsIn K mainGlobals "is_whole" = some (some (.ref f12))) (l12 : K.lookup f12 = some ⟨oc12, od12, .func (PySem.W.fnOf "is_whole" "is_whole" (defArgs s_is_whole) (defBody s_is_whole) (defScope s_is_whole) .none kV12 dc12 pm12 an12 cd12 ct12), sl12⟩) (c12 : PySem.W.codeIn K cd12 "is_whole" = true) (k12 : PySem.W.keepIn K (.ref f12) = true)
    {od13 an13 : Option Addr} {sl13 : Array (Option Value)} {oc13 kV13 dc13 pm13 cd13 ct13 : Value}
    (a13 : PySem.W.nsIn K mainGlobals "_law_less_right" = some (some (.ref f13))) (l13 : K.lookup f13 = some ⟨oc13, od13, .func (PySem.W.fnOf "_law_less_right" "_law_less_right" (defArgs s__law_less_right) (defBody s__law_less_right) (defScope s__law_less_right) .none kV13 dc13 pm13 an13 cd13 ct13), sl13⟩) (c13 : PySem.W.codeIn K cd13 "_law_less_right" = true) (k13 : PySem.W.keepIn K (.ref f13) = true)
    {od14 an14 : Option Addr} {sl14 : Array (Option Value)} {oc14 kV14 dc14 pm14 cd14 ct14 : Value}
    (a14 : PySem.W.nsIn K mainGlobals "_law_parted_right" = some (some (.ref f14))) (l14 : K.lookup f14 = some ⟨oc14, od14, .func (PySem.W.fnOf "_law_parted_right" "_law_parted_right" (defArgs s__law_parted_right) (defBody s__law_parted_right) (defScope s__law_parted_right) .none kV14 dc14 pm14 an14 cd14 ct14), sl14⟩) (c14 : PySem.W.codeIn K cd14 "_law_parted_right" = true) (k14 : PySem.W.keepIn K (.ref f14) = true)
    {od15 an15 : Option Addr} {sl15 : Array (Option Value)} {oc15 kV15 dc15 pm15 cd15 ct15 : Value}
    (a15 : PySem.W.nsIn K mainGlobals "_law_sums_right" = some (some (.ref f15))) (l15 : K.lookup f15 = some ⟨oc15, od15, .func (PySem.W.fnOf "_law_sums_right" "_law_sums_right" (defArgs s__law_sums_right) (defBody s__law_sums_right) (defScope s__law_sums_right) .none kV15 dc15 pm15 an15 cd15 ct15), sl15⟩) (c15 : PySem.W.codeIn K cd15 "_law_sums_right" = true) (k15 : PySem.W.keepIn K (.ref f15) = true)
    {od16 an16 : Option Addr} {sl16 : Array (Option Value)} {oc16 kV16 dc16 pm16 cd16 ct16 : Value}
    (a16 : PySem.W.nsIn K mainGlobals "_law_mixed" = some (some (.ref f16))) (l16 : K.lookup f16 = some ⟨oc16, od16, .func (PySem.W.fnOf "_law_mixed" "_law_mixed" (defArgs s__law_mixed) (defBody s__law_mixed) (defScope s__law_mixed) .none kV16 dc16 pm16 an16 cd16 ct16), sl16⟩) (c16 : PySem.W.codeIn K cd16 "_law_mixed" = true) (k16 : PySem.W.keepIn K (.ref f16) = true)
    {od17 an17 : Option Addr} {sl17 : Array (Option Value)} {oc17 kV17 dc17 pm17 cd17 ct17 : Value}
    (a17 : PySem.W.nsIn K mainGlobals "are_figures" = some (some (.ref f17))) (l17 : K.lookup f17 = some ⟨oc17, od17, .func (PySem.W.fnOf "are_figures" "are_figures" (defArgs s_are_figures) (defBody s_are_figures) (defScope s_are_figures) .none kV17 dc17 pm17 an17 cd17 ct17), sl17⟩) (c17 : PySem.W.codeIn K cd17 "are_figures" = true) (k17 : PySem.W.keepIn K (.ref f17) = true)
    {od18 an18 : Option Addr} {sl18 : Array (Option Value)} {oc18 kV18 dc18 pm18 cd18 ct18 : Value}
    (a18 : PySem.W.nsIn K mainGlobals "is_less" = some (some (.ref f18))) (l18 : K.lookup f18 = some ⟨oc18, od18, .func (PySem.W.fnOf "is_less" "is_less" (defArgs s_is_less) (defBody s_is_less) (defScope s_is_less) .none kV18 dc18 pm18 an18 cd18 ct18), sl18⟩) (c18 : PySem.W.codeIn K cd18 "is_less" = true) (k18 : PySem.W.keepIn K (.ref f18) = true)
    {od19 an19 : Option Addr} {sl19 : Array (Option Value)} {oc19 kV19 dc19 pm19 cd19 ct19 : Value}
    (a19 : PySem.W.nsIn K mainGlobals "parted" = some (some (.ref f19))) (l19 : K.lookup f19 = some ⟨oc19, od19, .func (PySem.W.fnOf "parted" "parted" (defArgs s_parted) (defBody s_parted) (defScope s_parted) .none kV19 dc19 pm19 an19 cd19 ct19), sl19⟩) (c19 : PySem.W.codeIn K cd19 "parted" = true) (k19 : PySem.W.keepIn K (.ref f19) = true)
    {od20 an20 : Option Addr} {sl20 : Array (Option Value)} {oc20 kV20 dc20 pm20 cd20 ct20 : Value}
    (a20 : PySem.W.nsIn K mainGlobals "taken" = some (some (.ref f20))) (l20 : K.lookup f20 = some ⟨oc20, od20, .func (PySem.W.fnOf "taken" "taken" (defArgs s_taken) (defBody s_taken) (defScope s_taken) .none kV20 dc20 pm20 an20 cd20 ct20), sl20⟩) (c20 : PySem.W.codeIn K cd20 "taken" = true) (k20 : PySem.W.keepIn K (.ref f20) = true)
    {t0 : Tok} (glo0 : PySem.W.nsIn K mainGlobals "FIGURES" = some (some (.str (PySem.Str.ofString "0123456789") t0)))
    (z0 : PySem.W.nsIn K mainGlobals "len" = some none)
    (z1 : PySem.W.nsIn K mainGlobals "abs" = some none)
    (z2 : PySem.W.nsIn K mainGlobals "min" = some none)
    (z3 : PySem.W.nsIn K mainGlobals "max" = some none)
    (z4 : PySem.W.nsIn K mainGlobals "sum" = some none)
    (z5 : PySem.W.nsIn K mainGlobals "all" = some none)
    (z6 : PySem.W.nsIn K mainGlobals "any" = some none)
    (z7 : PySem.W.nsIn K mainGlobals "sorted" = some none)
    (z8 : PySem.W.nsIn K mainGlobals "divmod" = some none)
    (z9 : PySem.W.nsIn K mainGlobals "list" = some none)
    (z10 : PySem.W.nsIn K mainGlobals "tuple" = some none)
    (z11 : PySem.W.nsIn K mainGlobals "int" = some none)
    (z12 : PySem.W.nsIn K mainGlobals "str" = some none)
    (z13 : PySem.W.nsIn K mainGlobals "dict" = some none)
    (z14 : PySem.W.nsIn K mainGlobals "range" = some none)
    (z15 : PySem.W.nsIn K mainGlobals "zip" = some none)
    (z16 : PySem.W.nsIn K mainGlobals "enumerate" = some none)
    (z17 : PySem.W.nsIn K mainGlobals "isinstance" = some none)
    (z18 : PySem.W.nsIn K mainGlobals "bool" = some none)
    : ∃ fd : FuncData, (∀ (s : Shared) (v : Value), BindsTo s fd ⟨[v], []⟩ [("_law_script", v)]) ∧ ∀ base : Heap, K.In base → base.Ns mainGlobals mg → FnOk P w K mg base (L2.CX P w) 12 fa fd ["_law_script"] (spLaw K) := by
  have e := hfa.symm.trans (PySem.W.mg_of X G a0)
  cases e
  have F0 := fun_mk (st := s_law) l0 c0 k0
  have b0 := F0.binds (ps := P_law) fun _ _ _ _ _ _ us hl => match us, hl with | [_], _ => rfl
  have F1 := fun_mk (st := s_multiplied) l1 c1 k1
  have b1 := F1.binds (ps := P_multiplied) fun _ _ _ _ _ _ us hl => match us, hl with | [_, _], _ => rfl
  have F2 := fun_mk (st := s_added) l2 c2 k2
  have b2 := F2.binds (ps := P_added) fun _ _ _ _ _ _ us hl => match us, hl with | [_, _], _ => rfl
  have F3 := fun_mk (st := s_read_number) l3 c3 k3
  have b3 := F3.binds (ps := P_read_number) fun _ _ _ _ _ _ us hl => match us, hl with | [_], _ => rfl
  have F4 := fun_mk (st := s_show_number) l4 c4 k4
  have b4 := F4.binds (ps := P_show_number) fun _ _ _ _ _ _ us hl => match us, hl with | [_], _ => rfl
  have F5 := fun_mk (st := s_is_number) l5 c5 k5
  have b5 := F5.binds (ps := P_is_number) fun _ _ _ _ _ _ us hl => match us, hl with | [_], _ => rfl
  have F6 := fun_mk (st := s__law_right) l6 c6 k6
  have b6 := F6.binds (ps := P__law_right) fun _ _ _ _ _ _ us hl => match us, hl with | [_, _, _], _ => rfl
  have F7 := fun_mk (st := s__law_take) l7 c7 k7
  have b7 := F7.binds (ps := P__law_take) fun _ _ _ _ _ _ us hl => match us, hl with | [_, _], _ => rfl
  have F8 := fun_mk (st := s_number) l8 c8 k8
  have b8 := F8.binds (ps := P_number) fun _ _ _ _ _ _ us hl => match us, hl with | [_, _], _ => rfl
  have F9 := fun_mk (st := s__law_pack) l9 c9 k9
  have b9 := F9.binds (ps := P__law_pack) fun _ _ _ _ _ _ us hl => match us, hl with | [_, _], _ => rfl
  have F10 := fun_mk (st := s_number_in) l10 c10 k10
  have b10 := F10.binds (ps := P_number_in) fun _ _ _ _ _ _ us hl => match us, hl with | [_], _ => rfl
  have F11 := fun_mk (st := s_common) l11 c11 k11
  have b11 := F11.binds (ps := P_common) fun _ _ _ _ _ _ us hl => match us, hl with | [_, _], _ => rfl
  have F12 := fun_mk (st := s_is_whole) l12 c12 k12
  have b12 := F12.binds (ps := P_is_whole) fun _ _ _ _ _ _ us hl => match us, hl with | [_], _ => rfl
  have F13 := fun_mk (st := s__law_less_right) l13 c13 k13
  have b13 := F13.binds (ps := P__law_less_right) fun _ _ _ _ _ _ us hl => match us, hl with | [_, _, _], _ => rfl
  have F14 := fun_mk (st := s__law_parted_right) l14 c14 k14
  have b14 := F14.binds (ps := P__law_parted_right) fun _ _ _ _ _ _ us hl => match us, hl with | [_, _], _ => rfl
  have F15 := fun_mk (st := s__law_sums_right) l15 c15 k15
  have b15 := F15.binds (ps := P__law_sums_right) fun _ _ _ _ _ _ us hl => match us, hl with | [_, _, _], _ => rfl
  have F16 := fun_mk (st := s__law_mixed) l16 c16 k16
  have b16 := F16.binds (ps := P__law_mixed) fun _ _ _ _ _ _ us hl => match us, hl with | [_], _ => rfl
  have F17 := fun_mk (st := s_are_figures) l17 c17 k17
  have b17 := F17.binds (ps := P_are_figures) fun _ _ _ _ _ _ us hl => match us, hl with | [_], _ => rfl
  have F18 := fun_mk (st := s_is_less) l18 c18 k18
  have b18 := F18.binds (ps := P_is_less) fun _ _ _ _ _ _ us hl => match us, hl with | [_, _], _ => rfl
  have F19 := fun_mk (st := s_parted) l19 c19 k19
  have b19 := F19.binds (ps := P_parted) fun _ _ _ _ _ _ us hl => match us, hl with | [_, _], _ => rfl
  have F20 := fun_mk (st := s_taken) l20 c20 k20
  have b20 := F20.binds (ps := P_taken) fun _ _ _ _ _ _ us hl => match us, hl with | [_, _], _ => rfl
  refine ⟨PySem.W.fnOf "law" "law" (defArgs s_law) (defBody s_law) (defScope s_law) .none kV0 dc0 pm0 an0 cd0 ct0, fun s v => .of_eq rfl, fun base _ _ => ?_⟩
  have S : Sta (pg P w K mg base [fa, f1, f2, f3, f4, f5, f6, f7, f8, f9, f10, f11, f12, f13, f14, f15, f16, f17, f18, f19, f20]) := by
    refine ⟨fun g hg => ?_, fun f hf => ?_, fun x hx => ?_, fun f hf => ?_, rfl, rfl, fun c hc => ?_, fun f hf => ?_, fun f hf => ?_⟩
    · have hg : g < 1 := of_decide_eq_true hg
      match g, hg with
      | 0, _ => exact ⟨.str (PySem.Str.ofString "0123456789"), _, PySem.W.mg_of X G glo0, ⟨_, rfl⟩, fun ms H => .str _⟩
      | g + 1, hg => exact absurd hg (by omega)
    · have hf : f < 21 := by
        have q := (Bool.and_eq_true _ _).mp hf
        exact of_decide_eq_true q.1
      match f, hf with
      | 0, _ => exact ⟨PySem.W.mg_of X G a0, k0⟩
      | 1, _ => exact ⟨PySem.W.mg_of X G a1, k1⟩
      | 2, _ => exact ⟨PySem.W.mg_of X G a2, k2⟩
      | 3, _ => exact ⟨PySem.W.mg_of X G a3, k3⟩
      | 4, _ => exact ⟨PySem.W.mg_of X G a4, k4⟩
      | 5, _ => exact ⟨PySem.W.mg_of X G a5, k5⟩
      | 6, _ => exact ⟨PySem.W.mg_of X G a6, k6⟩
      | 7, _ => exact ⟨PySem.W.mg_of X G a7, k7⟩
      | 8, _ => exact ⟨PySem.W.mg_of X G a8, k8⟩
      | 9, _ => exact ⟨PySem.W.mg_of X G a9, k9⟩
      | 10, _ => exact ⟨PySem.W.mg_of X G a10, k10⟩
      | 11, _ => exact ⟨PySem.W.mg_of X G a11, k11⟩
      | 12, _ => exact ⟨PySem.W.mg_of X G a12, k12⟩
      | 13, _ => exact ⟨PySem.W.mg_of X G a13, k13⟩
      | 14, _ => exact ⟨PySem.W.mg_of X G a14, k14⟩
      | 15, _ => exact ⟨PySem.W.mg_of X G a15, k15⟩
      | 16, _ => exact ⟨PySem.W.mg_of X G a16, k16⟩
      | 17, _ => exact ⟨PySem.W.mg_of X G a17, k17⟩
      | 18, _ => exact ⟨PySem.W.mg_of X G a18, k18⟩
      | 19, _ => exact ⟨PySem.W.mg_of X G a19, k19⟩
      | 20, _ => exact ⟨PySem.W.mg_of X G a20, k20⟩
      | f + 21, hf => exact absurd hf (by omega)
    · simp only [bltNames, List.mem_cons, List.not_mem_nil, or_false] at hx
      rcases hx with rfl | rfl | rfl | rfl | rfl | rfl | rfl | rfl | rfl | rfl | rfl | rfl | rfl | rfl | rfl | rfl | rfl | rfl | rfl
      · exact PySem.W.mg_none_of X G z0
      · exact PySem.W.mg_none_of X G z1
      · exact PySem.W.mg_none_of X G z2
      · exact PySem.W.mg_none_of X G z3
      · exact PySem.W.mg_none_of X G z4
      · exact PySem.W.mg_none_of X G z5
      · exact PySem.W.mg_none_of X G z6
      · exact PySem.W.mg_none_of X G z7
      · exact PySem.W.mg_none_of X G z8
      · exact PySem.W.mg_none_of X G z9
      · exact PySem.W.mg_none_of X G z10
      · exact PySem.W.mg_none_of X G z11
      · exact PySem.W.mg_none_of X G z12
      · exact PySem.W.mg_none_of X G z13
      · exact PySem.W.mg_none_of X G z14
      · exact PySem.W.mg_none_of X G z15
      · exact PySem.W.mg_none_of X G z16
      · exact PySem.W.mg_none_of X G z17
      · exact PySem.W.mg_none_of X G z18
    · cases hf
    · exact absurd (of_decide_eq_true (show decide (c < 0) = true from hc)) (by omega)
    · exact absurd (of_decide_eq_true (show decide (f ∈ ([] : List Nat)) = true from hf)) (by simp)
    · have hf : f < 21 := by
        rcases hf with hf | hf
        · have q := (Bool.and_eq_true _ _).mp hf
          exact of_decide_eq_true q.1
        · exact absurd (of_decide_eq_true (show decide (f ∈ ([] : List Nat)) = true from hf)) (by simp)
      match f, hf with
      | 0, _ => exact ⟨d_law, s_law, _, _, _, N_law, P_law, rfl, F0, sc_law, rfl, rfl, m_law, b0⟩
      | 1, _ => exact ⟨d_multiplied, s_multiplied, _, _, _, N_multiplied, P_multiplied, rfl, F1, sc_multiplied, rfl, rfl, m_multiplied, b1⟩
      | 2, _ => exact ⟨d_added, s_added, _, _, _, N_added, P_added, rfl, F2, sc_added, rfl, rfl, m_added, b2⟩
      | 3, _ => exact ⟨d_read_number, s_read_number, _, _, _, N_read_number, P_read_number, rfl, F3, sc_read_number, rfl, rfl, m_read_number, b3⟩
      | 4, _ => exact ⟨d_show_number, s_show_number, _, _, _, N_show_number, P_show_number, rfl, F4, sc_show_number, rfl, rfl, m_show_number, b4⟩
      | 5, _ => exact ⟨d_is_number, s_is_number, _, _, _, N_is_number, P_is_number, rfl, F5, sc_is_number, rfl, rfl, m_is_number, b5⟩
      | 6, _ => exact ⟨d__law_right, s__law_right, _, _, _, N__law_right, P__law_right, rfl, F6, sc__law_right, rfl, rfl, m__law_right, b6⟩
      | 7, _ => exact ⟨d__law_take, s__law_take, _, _, _, N__law_take, P__law_take, rfl, F7, sc__law_take, rfl, rfl, m__law_take, b7⟩
      | 8, _ => exact ⟨d_number, s_number, _, _, _, N_number, P_number, rfl, F8, sc_number, rfl, rfl, m_number, b8⟩
      | 9, _ => exact ⟨d__law_pack, s__law_pack, _, _, _, N__law_pack, P__law_pack, rfl, F9, sc__law_pack, rfl, rfl, m__law_pack, b9⟩
      | 10, _ => exact ⟨d_number_in, s_number_in, _, _, _, N_number_in, P_number_in, rfl, F10, sc_number_in, rfl, rfl, m_number_in, b10⟩
      | 11, _ => exact ⟨d_common, s_common, _, _, _, N_common, P_common, rfl, F11, sc_common, rfl, rfl, m_common, b11⟩
      | 12, _ => exact ⟨d_is_whole, s_is_whole, _, _, _, N_is_whole, P_is_whole, rfl, F12, sc_is_whole, rfl, rfl, m_is_whole, b12⟩
      | 13, _ => exact ⟨d__law_less_right, s__law_less_right, _, _, _, N__law_less_right, P__law_less_right, rfl, F13, sc__law_less_right, rfl, rfl, m__law_less_right, b13⟩
      | 14, _ => exact ⟨d__law_parted_right, s__law_parted_right, _, _, _, N__law_parted_right, P__law_parted_right, rfl, F14, sc__law_parted_right, rfl, rfl, m__law_parted_right, b14⟩
      | 15, _ => exact ⟨d__law_sums_right, s__law_sums_right, _, _, _, N__law_sums_right, P__law_sums_right, rfl, F15, sc__law_sums_right, rfl, rfl, m__law_sums_right, b15⟩
      | 16, _ => exact ⟨d__law_mixed, s__law_mixed, _, _, _, N__law_mixed, P__law_mixed, rfl, F16, sc__law_mixed, rfl, rfl, m__law_mixed, b16⟩
      | 17, _ => exact ⟨d_are_figures, s_are_figures, _, _, _, N_are_figures, P_are_figures, rfl, F17, sc_are_figures, rfl, rfl, m_are_figures, b17⟩
      | 18, _ => exact ⟨d_is_less, s_is_less, _, _, _, N_is_less, P_is_less, rfl, F18, sc_is_less, rfl, rfl, m_is_less, b18⟩
      | 19, _ => exact ⟨d_parted, s_parted, _, _, _, N_parted, P_parted, rfl, F19, sc_parted, rfl, rfl, m_parted, b19⟩
      | 20, _ => exact ⟨d_taken, s_taken, _, _, _, N_taken, P_taken, rfl, F20, sc_taken, rfl, rfl, m_taken, b20⟩
      | f + 21, hf => exact absurd hf (by omega)
  have FO := one_ok (p := pg P w K mg base [fa, f1, f2, f3, f4, f5, f6, f7, f8, f9, f10, f11, f12, f13, f14, f15, f16, f17, f18, f19, f20]) (n := 5) (f := 0) (fct S 5) rfl F0 sc_law rfl rfl m_law
  refine FnOk.imp FO fun vs H Q E h => ?_
  obtain ⟨a, ns, rfl, hS, hl, hb, hQ⟩ := h
  refine ⟨d_law, ⟨[], []⟩, [], [.t (.scr ns)], fun d _ => d = .t (.bl true), FX, rfl, rfl, ⟨rfl, List.nodup_nil, fun n o e => (by cases e), fun a h => (by cases h)⟩, .cons (.t (.scr (hS.elim (fun h => .inl ⟨h, fun q => by rcases q with q | q <;> cases q⟩) .inr))) .nil, c_law (k := 0) hl hb rfl, fun dd S' v ms' H' q _ _ rd => ?_, fun c a S' dx ms' H' q _ _ _ => q.elim⟩
  subst q
  cases rd with
  | t rd => cases rd; exact hQ H'
end K06


open PySem PySem.W PyProof.Rows
set_option maxHeartbeats 0 in
theorem PySem.Challenge.cw_levelcord_k06_whole_numbers_agree_holds : PySem.Challenge.rw_levelcord_k06_whole_numbers_agree.Holds := by
  w_on; o_law; k_head; (case hw => w_witness2)
  k_fill
  refine L2.walk_ofB (l := PySem.Challenge.rw_levelcord_k06_whole_numbers_agree) (n := 63) (k := 12) (x := "_law_script") (CX := fun w => L2.CX (PySem.W.OpenLaw.prog PySem.Challenge.rw_levelcord_k06_whole_numbers_agree) w) (sp := fun w => K06.spLaw _) rfl (by decide) rfl ⟨rfl, by decide, by decide⟩ (fun w h Y => PySem.W.kIn_of Y) ?F (fun _ _ a ns hl hb _ hS => ⟨a, ns, rfl, hS, hl, hb, fun _ => rfl⟩) (fun _ _ _ _ _ h => K06.cx_no h)
  case F =>
    intro w mg fa h KX G hmg
    refine' K06.all_mk KX G hmg ?a0 ?l0 ?c0 ?k0 ?a1 ?l1 ?c1 ?k1 ?a2 ?l2 ?c2 ?k2 ?a3 ?l3 ?c3 ?k3 ?a4 ?l4 ?c4 ?k4 ?a5 ?l5 ?c5 ?k5 ?a6 ?l6 ?c6 ?k6 ?a7 ?l7 ?c7 ?k7 ?a8 ?l8 ?c8 ?k8 ?a9 ?l9 ?c9 ?k9 ?a10 ?l10 ?c10 ?k10 ?a11 ?l11 ?c11 ?k11 ?a12 ?l12 ?c12 ?k12 ?a13 ?l13 ?c13 ?k13 ?a14 ?l14 ?c14 ?k14 ?a15 ?l15 ?c15 ?k15 ?a16 ?l16 ?c16 ?k16 ?a17 ?l17 ?c17 ?k17 ?a18 ?l18 ?c18 ?k18 ?a19 ?l19 ?c19 ?k19 ?a20 ?l20 ?c20 ?k20 ?glo0 ?z0 ?z1 ?z2 ?z3 ?z4 ?z5 ?z6 ?z7 ?z8 ?z9 ?z10 ?z11 ?z12 ?z13 ?z14 ?z15 ?z16 ?z17 ?z18
    (case a0 => k_is); (case l0 => k_is); (case c0 => k_is); (case k0 => k_is); (case a1 => k_is); (case l1 => k_is)
    (case c1 => k_is); (case k1 => k_is); (case a2 => k_is); (case l2 => k_is); (case c2 => k_is); (case k2 => k_is)
    (case a3 => k_is); (case l3 => k_is); (case c3 => k_is); (case k3 => k_is); (case a4 => k_is); (case l4 => k_is)
    (case c4 => k_is); (case k4 => k_is); (case a5 => k_is); (case l5 => k_is); (case c5 => k_is); (case k5 => k_is)
    (case a6 => k_is); (case l6 => k_is); (case c6 => k_is); (case k6 => k_is); (case a7 => k_is); (case l7 => k_is)
    (case c7 => k_is); (case k7 => k_is); (case a8 => k_is); (case l8 => k_is); (case c8 => k_is); (case k8 => k_is)
    (case a9 => k_is); (case l9 => k_is); (case c9 => k_is); (case k9 => k_is); (case a10 => k_is); (case l10 => k_is)
    (case c10 => k_is); (case k10 => k_is); (case a11 => k_is); (case l11 => k_is); (case c11 => k_is); (case k11 => k_is)
    (case a12 => k_is); (case l12 => k_is); (case c12 => k_is); (case k12 => k_is); (case a13 => k_is); (case l13 => k_is)
    (case c13 => k_is); (case k13 => k_is); (case a14 => k_is); (case l14 => k_is); (case c14 => k_is); (case k14 => k_is)
    (case a15 => k_is); (case l15 => k_is); (case c15 => k_is); (case k15 => k_is); (case a16 => k_is); (case l16 => k_is)
    (case c16 => k_is); (case k16 => k_is); (case a17 => k_is); (case l17 => k_is); (case c17 => k_is); (case k17 => k_is)
    (case a18 => k_is); (case l18 => k_is); (case c18 => k_is); (case k18 => k_is); (case a19 => k_is); (case l19 => k_is)
    (case c19 => k_is); (case k19 => k_is); (case a20 => k_is); (case l20 => k_is); (case c20 => k_is); (case k20 => k_is)
    (case glo0 => k_is); (case z0 => k_is); (case z1 => k_is); (case z2 => k_is); (case z3 => k_is); (case z4 => k_is)
    (case z5 => k_is); (case z6 => k_is); (case z7 => k_is); (case z8 => k_is); (case z9 => k_is); (case z10 => k_is)
    (case z11 => k_is); (case z12 => k_is); (case z13 => k_is); (case z14 => k_is); (case z15 => k_is); (case z16 => k_is)
    (case z17 => k_is); (case z18 => k_is)
