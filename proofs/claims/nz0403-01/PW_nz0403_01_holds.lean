import PyProof.Rows.All
import Wide.All
import OpenK.AllK
import Wide.FinOn
import PySem.Challenge.RW_nz0403_01
set_option maxRecDepth 100000
set_option Elab.async false
set_option linter.all false
set_option genSizeOf false
/-! part MA -/
set_option genSizeOf false
namespace Mine
open PySem

inductive AV where
  | none | bool (b : Bool) | int (i : Int) | str (k : Nat) | tup (l : List AV) | lst (l : List AV) | dct (ks vs : List AV) | obj (i : Nat)

inductive AO where
  | inst (c : Nat) (fs : List (Nat × AV))
  | mlst (l : List AV)

inductive LV where
  | val (a : AV)
  | own (l : List AV)
  | dead

noncomputable abbrev Loc := List (Nat × LV)
noncomputable abbrev Sto := List AO
noncomputable abbrev Callf := Nat → List AV → Sto → Option (AV × Sto)

inductive BO where | add | sub | mul | mod | fdiv | band | bor | shl
inductive CO where | eq | ne | lt | gt | ge

mutual
inductive X where
  | none | bool (b : Bool) | int (i : Int) | str (k : Nat)
  | var (k : Nat) | tab (k : Nat)
  | attr (x : X) (k : Nat)
  | tup (xs : List X) | mlst (xs : List X)
  | dict (kvs : List X)
  | bin (o : BO) (a b : X) | neg (i : Int)
  | cmp (o : CO) (a b : X)
  | isN (a : X) | isNN (a : X)
  | isin (a c : X) | notin (a c : X) | notinO (a : X) (k : Nat)
  | neE (k : Nat)
  | not (a : X) | bop (isAnd : Bool) (xs : List X) | ite (c a b : X)
  | sub (a i : X) | osub (k : Nat) (i : X)
  | tl (a : X)
  | call (f : Nat) (xs : List X) | new (c : Nat) (xs : List X)
  | len (a : X) | isi (a : X) (T : Nat) | all (a : X) | toInt (a : X) | tupOf (a : X) | sumOf (a : X) | lenset (a : X)
  | dget (d k e : X)
  | fresh (y : Y)
inductive Y where
  | disp (xs : List X) | comp (t : Nat) (src : X) (cond : Option X) (elt : X)
  | cat (a b : X) | rep (a n : X) | slice (a : X) (lo hi : Option X) | zip (a b : X) | ite (c : X) (a b : Y) | listOf (a : X)
end

inductive S where
  | asg (k : Nat) (x : X) | own (k : Nat) (y : Y)
  | unp (ks : List Nat) (x : X)
  | setA (o : X) (k : Nat) (x : X)
  | setM (o : X) (i : X) (x : X)
  | setO (k : Nat) (i : X) (x : X)
  | app (k : Nat) (x : X) | ext (k : Nat) (x : X) | pop (t k : Nat)
  | ite (c : X) (a b : List S)
  | for1 (t : Nat) (it : X) (b : List S)
  | for2 (t u : Nat) (it : X) (b : List S)
  | forE (t u : Nat) (it : X) (b : List S)
  | forR (t : Nat) (n : X) (b : List S)
  | whil (fuel : Nat) (c : X) (b : List S)
  | ret (x : X) | expr (x : X)
  | frz (k : Nat)

/-! plain operations -/
noncomputable def look (k : Nat) : Loc → Option LV
  | [] => Option.none
  | (j, v) :: r => if j = k then some v else look k r
noncomputable def put (k : Nat) (v : LV) : Loc → Loc
  | [] => [(k, v)]
  | (j, u) :: r => if j = k then (k, v) :: r else (j, u) :: put k v r
noncomputable def kill : LV → LV
  | .val a => .val a
  | _ => .dead
noncomputable def valsOf : Loc → Loc
  | [] => []
  | (k, u) :: r => (k, kill u) :: valsOf r
noncomputable def field (k : Nat) : List (Nat × AV) → Option AV
  | [] => Option.none
  | (j, v) :: r => if j = k then some v else field k r
noncomputable def putF (k : Nat) (v : AV) : List (Nat × AV) → List (Nat × AV)
  | [] => [(k, v)]
  | (j, u) :: r => if j = k then (k, v) :: r else (j, u) :: putF k v r

noncomputable def lim : Int := 1000000000000
noncomputable def small (a : Int) : Bool := decide (-lim < a) && decide (a < lim)
noncomputable def binI : BO → Int → Int → Option Int
  | .add, a, b => some (a + b)
  | .sub, a, b => some (a - b)
  | .mul, a, b => if small a && small b then some (a * b) else Option.none
  | .mod, a, b => if decide (0 < b) && small b then some (Int.fmod a b) else Option.none
  | .fdiv, a, b => if decide (0 < b) && small a && small b then some (Int.fdiv a b) else Option.none
  | .band, a, b => some (Builtin.bitAnd a b)
  | .bor, a, b => some (Builtin.bitOr a b)
  | .shl, a, b => if decide (0 ≤ b) && decide (b ≤ 60) && small a then some (a * 2 ^ b.toNat) else Option.none
noncomputable def binV (o : BO) : AV → AV → Option AV
  | .int a, .int b => (binI o a b).map .int
  | _, _ => Option.none
noncomputable def eqS : AV → AV → Option Bool
  | .int a, .int b => some (decide (a = b))
  | .str a, .str b => some (decide (a = b))
  | _, _ => Option.none
noncomputable def eqL : List AV → List AV → Option Bool
  | [], [] => some true
  | a :: r, b :: q => (eqS a b).bind fun e => (eqL r q).map fun f => e && f
  | _, _ => Option.none
noncomputable def eqV : AV → AV → Option Bool
  | .tup l, .tup [] => some l.isEmpty
  | .tup l, .tup m => eqL l m
  | a, b => eqS a b
noncomputable def cmpV : CO → AV → AV → Option Bool
  | .eq, a, b => eqV a b
  | .ne, a, b => (eqS a b).map (!·)
  | .lt, .int a, .int b => some (decide (a < b))
  | .gt, .int a, .int b => some (decide (b < a))
  | .ge, .int a, .int b => some (decide (b ≤ a))
  | _, _, _ => Option.none
noncomputable def items : AV → Option (List AV)
  | .tup l => some l
  | .lst l => some l
  | _ => Option.none
noncomputable def isinL (x : AV) : List AV → Option Bool
  | [] => some false
  | a :: r => (eqS a x).bind fun e => (isinL x r).map fun f => e || f
noncomputable def keyOf (ks vs : List AV) (x : AV) : Option (Option AV) := match ks, vs with
  | [], [] => some Option.none
  | k :: ks, v :: vs => (eqS k x).bind fun e => if e then some (some v) else keyOf ks vs x
  | _, _ => Option.none
noncomputable def isinV (x c : AV) : Option Bool := match c with
  | .tup l => isinL x l
  | .lst l => isinL x l
  | .dct ks vs => (keyOf ks vs x).map Option.isSome
  | _ => Option.none
noncomputable def sizeLim : Nat := 1000000
noncomputable def fits (l : List AV) : Bool := decide (l.length ≤ sizeLim)
noncomputable def atI (l : List AV) (i : Int) : Option AV := if fits l then (if 0 ≤ i then l[i.toNat]? else if 0 ≤ i + l.length then l[(i + l.length).toNat]? else Option.none) else Option.none
noncomputable def setI (l : List AV) (i : Int) (v : AV) : Option (List AV) :=
  if ¬ fits l then Option.none else if 0 ≤ i then (if i.toNat < l.length then some (l.set i.toNat v) else Option.none)
  else if 0 ≤ i + l.length then some (l.set (i + l.length).toNat v) else Option.none
noncomputable def subV (σ : Sto) : AV → AV → Option AV
  | .tup l, .int i => atI l i
  | .lst l, .int i => atI l i
  | .dct ks vs, k => (keyOf ks vs k).bind id
  | .obj j, .int i => match σ[j]? with
    | some (.mlst l) => atI l i
    | _ => Option.none
  | _, _ => Option.none
noncomputable def cutL (l : List AV) : Option AV → Option AV → Option (List AV)
  | some (.int a), Option.none => if 0 ≤ a && small a then some (l.drop a.toNat) else Option.none
  | Option.none, some (.int b) => if 0 ≤ b && small b then some (l.take b.toNat) else Option.none
  | _, _ => Option.none
noncomputable def lenV : AV → Option AV
  | .tup l => if fits l then some (.int l.length) else Option.none
  | .lst l => if fits l then some (.int l.length) else Option.none
  | _ => Option.none
noncomputable def isiV (T : Nat) : AV → Option Bool
  | .int _ => some (decide (T = 0))
  | .tup _ => some (decide (T = 2))
  | _ => Option.none
noncomputable def boolL : List AV → Option (List Bool)
  | [] => some []
  | .bool b :: r => (boolL r).map (b :: ·)
  | _ => Option.none
noncomputable def intL : List AV → Option (List Int)
  | [] => some []
  | .int b :: r => (intL r).map (b :: ·)
  | _ => Option.none
noncomputable def strL : List AV → Option (List Nat)
  | [] => some []
  | .str b :: r => (strL r).map (b :: ·)
  | _ => Option.none
noncomputable def nodupI : List Int → Bool
  | [] => true
  | a :: r => !r.contains a && nodupI r
noncomputable def nodupN : List Nat → Bool
  | [] => true
  | a :: r => !r.contains a && nodupN r
noncomputable def keysOk (ks : List AV) : Bool := decide (ks.length ≤ 15) && !ks.isEmpty && (match intL ks with
  | some l => nodupI l
  | Option.none => match strL ks with
    | some l => nodupN l
    | Option.none => false)
noncomputable def allV : AV → Option AV
  | .lst l => (boolL l).map fun bs => .bool (bs.all id)
  | _ => Option.none
noncomputable def toIntV : AV → Option AV
  | .bool b => some (.int (if b then 1 else 0))
  | .int i => some (.int i)
  | _ => Option.none
noncomputable def tupOfV : AV → Option AV
  | .lst l => if fits l then some (.tup l) else Option.none
  | _ => Option.none
noncomputable def sumV : AV → Option AV
  | .lst l => (intL l).map fun ns => .int ns.sum
  | _ => Option.none
noncomputable def stepD (σ : List Int) (k : Int) : List Int := if σ.any (· == k) then σ else σ ++ [k]
noncomputable def lensetV : AV → Option AV
  | .lst l => if decide (l.length ≤ 1000) then (intL l).map fun ns => .int (ns.foldl stepD []).length else Option.none
  | _ => Option.none
noncomputable def zipL : List AV → List AV → List AV
  | a :: r, b :: q => .tup [a, b] :: zipL r q
  | _, _ => []
noncomputable def repL (l : List AV) : Nat → List AV
  | 0 => []
  | n + 1 => l ++ repL l n

noncomputable def halves : List AV → Option (List AV × List AV)
  | [] => some ([], [])
  | k :: v :: r => (halves r).map fun p => (k :: p.1, v :: p.2)
  | _ => Option.none

noncomputable def asB : AV → Option Bool
  | .bool b => some b
  | _ => Option.none

noncomputable def compL (f : AV → Sto → Option (Option AV × Sto)) : List AV → Sto → Option (List AV × Sto)
  | [], σ => some ([], σ)
  | v :: r, σ => (f v σ).bind fun (o, σ) => (compL f r σ).map fun (l, σ) => (o.toList ++ l, σ)

section
variable (cf : Callf) (tb : Nat → Option AV)
mutual
noncomputable def evX (ρ : Loc) : X → Sto → Option (AV × Sto)
  | .none, σ => some (.none, σ)
  | .bool b, σ => some (.bool b, σ)
  | .int i, σ => some (.int i, σ)
  | .str k, σ => some (.str k, σ)
  | .var k, σ => match look k ρ with
    | some (.val a) => some (a, σ)
    | _ => Option.none
  | .tab k, σ => (tb k).map fun a => (a, σ)
  | .attr x k, σ => (evX ρ x σ).bind fun (v, σ) => match v with
    | .obj i => match σ[i]? with
      | some (.inst _ fs) => (field k fs).map fun a => (a, σ)
      | _ => Option.none
    | _ => Option.none
  | .tup xs, σ => (evXs ρ xs σ).map fun (l, σ) => (.tup l, σ)
  | .mlst xs, σ => (evXs ρ xs σ).map fun (l, σ) => (.obj σ.length, σ ++ [.mlst l])
  | .dict kvs, σ => (evXs ρ kvs σ).bind fun (l, σ) => (halves l).bind fun p => if keysOk p.1 then some (.dct p.1 p.2, σ) else Option.none
  | .bin o a b, σ => (evX ρ a σ).bind fun (u, σ) => (evX ρ b σ).bind fun (v, σ) => (binV o u v).map fun r => (r, σ)
  | .neg i, σ => some (.int (-i), σ)
  | .cmp o a b, σ => (evX ρ a σ).bind fun (u, σ) => (evX ρ b σ).bind fun (v, σ) => (cmpV o u v).map fun r => (.bool r, σ)
  | .isN a, σ => (evX ρ a σ).map fun (v, σ) => (.bool (match v with | .none => true | _ => false), σ)
  | .isNN a, σ => (evX ρ a σ).map fun (v, σ) => (.bool (match v with | .none => false | _ => true), σ)
  | .isin a c, σ => (evX ρ a σ).bind fun (u, σ) => (evX ρ c σ).bind fun (v, σ) => (isinV u v).map fun r => (.bool r, σ)
  | .notin a c, σ => (evX ρ a σ).bind fun (u, σ) => (evX ρ c σ).bind fun (v, σ) => (isinV u v).map fun r => (.bool (!r), σ)
  | .notinO a k, σ => (evX ρ a σ).bind fun (u, σ) => match look k ρ with
    | some (.own l) => (isinL u l).map fun r => (.bool (!r), σ)
    | _ => Option.none
  | .neE k, σ => match look k ρ with
    | some (.own l) => some (.bool (!l.isEmpty), σ)
    | _ => Option.none
  | .not a, σ => (evX ρ a σ).bind fun (v, σ) => (asB v).map fun b => (.bool (!b), σ)
  | .bop isAnd xs, σ => evB ρ isAnd xs σ
  | .ite c a b, σ => (evX ρ c σ).bind fun (v, σ) => (asB v).bind fun t => if t then evX ρ a σ else evX ρ b σ
  | .sub a i, σ => (evX ρ a σ).bind fun (u, σ) => (evX ρ i σ).bind fun (v, σ) => (subV σ u v).map fun r => (r, σ)
  | .osub k i, σ => match look k ρ with
    | some (.own l) => (evX ρ i σ).bind fun (v, σ) => (match v with | .int i => (atI l i).map fun r => (r, σ) | _ => Option.none)
    | _ => Option.none
  | .tl a, σ => (evX ρ a σ).bind fun (u, σ) => (match u with
    | .tup (_ :: xs) => if fits xs then some (.tup xs, σ) else Option.none
    | _ => Option.none)
  | .call f xs, σ => (evXs ρ xs σ).bind fun (l, σ) => cf f l σ
  | .new c xs, σ => (evXs ρ xs σ).bind fun (l, σ) => (cf c (.obj σ.length :: l) (σ ++ [.inst c []])).bind fun (r, σ') => match r with
    | .none => some (.obj σ.length, σ')
    | _ => Option.none
  | .len a, σ => (evX ρ a σ).bind fun (v, σ) => (lenV v).map fun r => (r, σ)
  | .isi a T, σ => (evX ρ a σ).bind fun (v, σ) => (isiV T v).map fun r => (.bool r, σ)
  | .all a, σ => (evX ρ a σ).bind fun (v, σ) => (allV v).map fun r => (r, σ)
  | .toInt a, σ => (evX ρ a σ).bind fun (v, σ) => (toIntV v).map fun r => (r, σ)
  | .tupOf a, σ => (evX ρ a σ).bind fun (v, σ) => (tupOfV v).map fun r => (r, σ)
  | .sumOf a, σ => (evX ρ a σ).bind fun (v, σ) => (sumV v).map fun r => (r, σ)
  | .lenset a, σ => (evX ρ a σ).bind fun (v, σ) => (lensetV v).map fun r => (r, σ)
  | .dget d k e, σ => (evX ρ d σ).bind fun (u, σ) => (evX ρ k σ).bind fun (v, σ) => (evX ρ e σ).bind fun (w, σ) => (match u with
    | .dct ks vs => (keyOf ks vs v).map fun r => (r.getD w, σ)
    | _ => Option.none)
  | .fresh y, σ => (evY ρ y σ).map fun (l, σ) => (.lst l, σ)
noncomputable def evXs (ρ : Loc) : List X → Sto → Option (List AV × Sto)
  | [], σ => some ([], σ)
  | x :: r, σ => (evX ρ x σ).bind fun (v, σ) => (evXs ρ r σ).map fun (l, σ) => (v :: l, σ)
noncomputable def evB (ρ : Loc) (isAnd : Bool) : List X → Sto → Option (AV × Sto)
  | [], _ => Option.none
  | x :: r, σ => (evX ρ x σ).bind fun (v, σ) => (asB v).bind fun b => if r.isEmpty || b != isAnd then some (.bool b, σ) else evB ρ isAnd r σ
noncomputable def evO (ρ : Loc) : Option X → Sto → Option (Option AV × Sto)
  | Option.none, σ => some (Option.none, σ)
  | some x, σ => (evX ρ x σ).map fun (v, σ) => (some v, σ)
noncomputable def evC (ρ : Loc) : Option X → Sto → Option (Bool × Sto)
  | Option.none, σ => some (true, σ)
  | some x, σ => (evX ρ x σ).bind fun (v, σ) => (asB v).map fun b => (b, σ)
noncomputable def evY (ρ : Loc) : Y → Sto → Option (List AV × Sto)
  | .disp xs, σ => evXs ρ xs σ
  | .comp t src cond elt, σ => (evX ρ src σ).bind fun (s, σ) => (items s).bind fun L => if fits L then
      compL (fun v σ => (evC (put t (.val v) (valsOf ρ)) cond σ).bind fun (ok, σ) => if ok then (evX (put t (.val v) (valsOf ρ)) elt σ).map fun (r, σ) => (some r, σ) else some (Option.none, σ)) L σ
      else Option.none
  | .cat a b, σ => (evX ρ a σ).bind fun (u, σ) => (evX ρ b σ).bind fun (v, σ) => (match u, v with
    | .lst l, .lst m => if fits l && fits m then some (l ++ m, σ) else Option.none
    | _, _ => Option.none)
  | .rep a n, σ => (evX ρ a σ).bind fun (u, σ) => (evX ρ n σ).bind fun (v, σ) => (match u, v with
    | .lst [l], .int n => if decide (0 ≤ n) && decide (n ≤ 1000) then some (repL [l] n.toNat, σ) else Option.none
    | _, _ => Option.none)
  | .slice a lo hi, σ => (evX ρ a σ).bind fun (u, σ) => (evO ρ lo σ).bind fun (l, σ) => (evO ρ hi σ).bind fun (h, σ) => (match u with
    | .lst xs => if fits xs then (cutL xs l h).map fun r => (r, σ) else Option.none
    | _ => Option.none)
  | .zip a b, σ => (evX ρ a σ).bind fun (u, σ) => (evX ρ b σ).bind fun (v, σ) => (match u, v with
    | .tup (a :: l), .tup (b :: m) => if fits (a :: l) then some (zipL (a :: l) (b :: m), σ) else Option.none
    | _, _ => Option.none)
  | .ite c a b, σ => (evX ρ c σ).bind fun (v, σ) => (asB v).bind fun t => if t then evY ρ a σ else evY ρ b σ
  | .listOf a, σ => (evX ρ a σ).bind fun (u, σ) => (match u with
    | .lst l => if fits l then some (l, σ) else Option.none
    | _ => Option.none)
end
end

inductive Out where
  | next (ρ : Loc) (σ : Sto)
  | ret (a : AV) (σ : Sto)

noncomputable def forL (f : AV → Loc → Sto → Option Out) : List AV → Loc → Sto → Option Out
  | [], ρ, σ => some (.next ρ σ)
  | v :: r, ρ, σ => (f v ρ σ).bind fun o => match o with
    | .next ρ σ => forL f r ρ σ
    | .ret a σ => some (.ret a σ)
noncomputable def whileL (c : Loc → Sto → Option (Bool × Sto)) (f : Loc → Sto → Option Out) : Nat → Loc → Sto → Option Out
  | 0, _, _ => Option.none
  | n + 1, ρ, σ => (c ρ σ).bind fun (b, σ) => if b then (f ρ σ).bind fun o => match o with
    | .next ρ σ => whileL c f n ρ σ
    | .ret a σ => some (.ret a σ) else some (.next ρ σ)
noncomputable def enumL : Nat → List AV → List AV
  | _, [] => []
  | i, a :: r => .tup [.int i, a] :: enumL (i + 1) r
noncomputable def rangeL (n : Nat) : List AV := (List.range n).map fun i : Nat => AV.int (i : Int)
noncomputable def putAll : List Nat → List AV → Loc → Option Loc
  | [], [], ρ => some ρ
  | k :: ks, v :: vs, ρ => putAll ks vs (put k (.val v) ρ)
  | _, _, _ => Option.none

section
variable (cf : Callf) (tb : Nat → Option AV)
mutual
noncomputable def evS : S → Loc → Sto → Option Out
  | .asg k x, ρ, σ => (evX cf tb ρ x σ).map fun (v, σ) => .next (put k (.val v) ρ) σ
  | .own k y, ρ, σ => (evY cf tb ρ y σ).map fun (l, σ) => .next (put k (.own l) ρ) σ
  | .unp ks x, ρ, σ => (evX cf tb ρ x σ).bind fun (v, σ) => match v with
    | .tup l => (putAll ks l ρ).map fun ρ => .next ρ σ
    | _ => Option.none
  | .setA o k x, ρ, σ => (evX cf tb ρ x σ).bind fun (v, σ) => (evX cf tb ρ o σ).bind fun (u, σ) => match u with
    | .obj i => match σ[i]? with
      | some (.inst c fs) => if decide ((putF k v fs).length ≤ 100) then some (.next ρ (σ.set i (.inst c (putF k v fs)))) else Option.none
      | _ => Option.none
    | _ => Option.none
  | .setM o i x, ρ, σ => (evX cf tb ρ x σ).bind fun (v, σ) => (evX cf tb ρ o σ).bind fun (u, σ) => (evX cf tb ρ i σ).bind fun (j, σ) => match u, j with
    | .obj a, .int j => match σ[a]? with
      | some (.mlst l) => (setI l j v).map fun l => .next ρ (σ.set a (.mlst l))
      | _ => Option.none
    | _, _ => Option.none
  | .setO k i x, ρ, σ => (evX cf tb ρ x σ).bind fun (v, σ) => (evX cf tb ρ i σ).bind fun (j, σ) => match look k ρ, j with
    | some (.own l), .int j => (setI l j v).map fun l => .next (put k (.own l) ρ) σ
    | _, _ => Option.none
  | .app k x, ρ, σ => (evX cf tb ρ x σ).bind fun (v, σ) => match look k ρ with
    | some (.own l) => if fits l then some (.next (put k (.own (l ++ [v])) ρ) σ) else Option.none
    | _ => Option.none
  | .ext k x, ρ, σ => (evX cf tb ρ x σ).bind fun (v, σ) => (items v).bind fun m => match look k ρ with
    | some (.own l) => if fits l && fits m then some (.next (put k (.own (l ++ m)) ρ) σ) else Option.none
    | _ => Option.none
  | .pop t k, ρ, σ => match look k ρ with
    | some (.own l) => if fits l then (l.getLast?).map fun v => .next (put t (.val v) (put k (.own l.dropLast) ρ)) σ else Option.none
    | _ => Option.none
  | .ite c a b, ρ, σ => (evX cf tb ρ c σ).bind fun (v, σ) => (asB v).bind fun t => if t then evSs a ρ σ else evSs b ρ σ
  | .for1 t it b, ρ, σ => (evX cf tb ρ it σ).bind fun (v, σ) => (items v).bind fun L => forL (fun v ρ σ => evSs b (put t (.val v) ρ) σ) L ρ σ
  | .for2 t u it b, ρ, σ => (evX cf tb ρ it σ).bind fun (v, σ) => (match v with
    | .lst L => forL (fun v ρ σ => match v with
      | .tup l => (putAll [t, u] l ρ).bind fun ρ => evSs b ρ σ
      | _ => Option.none) L ρ σ
    | _ => Option.none)
  | .forE t u it b, ρ, σ => (evX cf tb ρ it σ).bind fun (v, σ) => (match v with
    | .lst L => if fits L then forL (fun v ρ σ => match v with
      | .tup l => (putAll [t, u] l ρ).bind fun ρ => evSs b ρ σ
      | _ => Option.none) (enumL 0 L) ρ σ else Option.none
    | _ => Option.none)
  | .forR t n b, ρ, σ => (evX cf tb ρ n σ).bind fun (v, σ) => (match v with
    | .int n => if decide (0 ≤ n) && decide (n ≤ 1000) then forL (fun v ρ σ => evSs b (put t (.val v) ρ) σ) (rangeL n.toNat) ρ σ else Option.none
    | _ => Option.none)
  | .whil fuel c b, ρ, σ => whileL (fun ρ σ => (evX cf tb ρ c σ).bind fun (v, σ) => (asB v).map fun t => (t, σ)) (fun ρ σ => evSs b ρ σ) fuel ρ σ
  | .ret x, ρ, σ => (evX cf tb ρ x σ).map fun (v, σ) => .ret v σ
  | .expr x, ρ, σ => (evX cf tb ρ x σ).bind fun (v, σ) => match v with
    | .int _ => some (.next ρ σ)
    | _ => Option.none
  | .frz k, ρ, σ => match look k ρ with
    | some (.own l) => some (.next (put k (.val (.lst l)) ρ) σ)
    | _ => Option.none
noncomputable def evSs : List S → Loc → Sto → Option Out
  | [], ρ, σ => some (.next ρ σ)
  | s :: r, ρ, σ => (evS s ρ σ).bind fun o => match o with
    | .next ρ σ => evSs r ρ σ
    | .ret a σ => some (.ret a σ)
end
end

noncomputable def bindAll : List Nat → List AV → Option Loc
  | [], [] => some []
  | k :: ks, v :: vs => (bindAll ks vs).map fun r => (k, .val v) :: r
  | _, _ => Option.none
noncomputable def runF (cf : Callf) (tb : Nat → Option AV) (ps : List Nat) (b : List S) (args : List AV) (σ : Sto) : Option (AV × Sto) :=
  (bindAll ps args).bind fun ρ => (evSs cf tb b ρ σ).map fun o => match o with
    | .next _ σ => (.none, σ)
    | .ret a σ => (a, σ)
end Mine
/-! part MB -/
namespace Mine
open PySem
noncomputable def Ws : List Str := [Str.ofString "found", Str.ofString "waiting", Str.ofString "self", Str.ofString "number", Str.ofString "title", Str.ofString "needed", Str.ofString "has_rest", Str.ofString "is_continuation", Str.ofString "registers", Str.ofString "free", Str.ofString "instructions", Str.ofString "Procedure", Str.ofString "procedures", Str.ofString "constants", Str.ofString "globals", Str.ofString "globals_read", Str.ofString "start", Str.ofString "Unit", Str.ofString "procedure", Str.ofString "entry_registers", Str.ofString "OPERANDS", Str.ofString "instruction", Str.ofString "operand_pairs", Str.ofString "sort", Str.ofString "source", Str.ofString "operand", Str.ofString "sources", Str.ofString "rows", Str.ofString "own", Str.ofString "row", Str.ofString "register", Str.ofString "registers_read", Str.ofString "target", Str.ofString "registers_written", Str.ofString "label", Str.ofString "label_of", Str.ofString "place", Str.ofString "ENDS", Str.ofString "places_behind", Str.ofString "value", Str.ofString "is_count", Str.ofString "bound", Str.ofString "is_below", Str.ofString "one", Str.ofString "are_registers", Str.ofString "unit", Str.ofString "is_closure_row", Str.ofString "are_closure_rows", Str.ofString "bounds", Str.ofString "constant", Str.ofString "global", Str.ofString "primitive", Str.ofString "primitives", Str.ofString "operand_fits", Str.ofString "operands", Str.ofString "closure", Str.ofString "instruction_word", Str.ofString "mask_of", Str.ofString "after", Str.ofString "known", Str.ofString "later", Str.ofString "written_ahead", Str.ofString "ahead", Str.ofString "wanted", Str.ofString "unread_place", Str.ofString "counts", Str.ofString "count", Str.ofString "empty", Str.ofString "head_word", Str.ofString "word", Str.ofString "at", Str.ofString "last", Str.ofString "end", Str.ofString "unwritten", Str.ofString "procedure_error", Str.ofString "is_bare", Str.ofString "start_word", Str.ofString "unit_error", Str.ofString "script", Str.ofString "_law_pot", Str.ofString "pot", Str.ofString "many", Str.ofString "_law_dip", Str.ofString "const", Str.ofString "move", Str.ofString "setglobal", Str.ofString "define", Str.ofString "prim", Str.ofString "fix", Str.ofString "branchfalse", Str.ofString "jump", Str.ofString "give", Str.ofString "turn", Str.ofString "call", Str.ofString "_law_body", Str.ofString "order", Str.ofString "turned", Str.ofString "step", Str.ofString "part", Str.ofString "_law_led", Str.ofString "body", Str.ofString "two", Str.ofString "_law_unit", Str.ofString "there", Str.ofString "_law_put", Str.ofString "way", Str.ofString "_law_headed", Str.ofString "some", Str.ofString "gave", Str.ofString "_law_operand", Str.ofString "_law_early", Str.ofString "first", Str.ofString "others", Str.ofString "due", Str.ofString "law"]
noncomputable def wmax : Nat := 115
noncomputable def k_Procedure : Nat := 11
noncomputable def p_Procedure : List Nat := [2, 3, 4, 5, 6, 7, 8, 9, 10]
noncomputable def b_Procedure : List S := [
  S.setA (X.var 2) 3 (X.var 3),
  S.setA (X.var 2) 4 (X.var 4),
  S.setA (X.var 2) 5 (X.var 5),
  S.setA (X.var 2) 6 (X.var 6),
  S.setA (X.var 2) 7 (X.var 7),
  S.setA (X.var 2) 8 (X.var 8),
  S.setA (X.var 2) 9 (X.var 9),
  S.setA (X.var 2) 10 (X.var 10)]
noncomputable def k_Unit : Nat := 17
noncomputable def p_Unit : List Nat := [2, 12, 13, 15, 16]
noncomputable def b_Unit : List S := [
  S.setA (X.var 2) 12 (X.var 12),
  S.setA (X.var 2) 13 (X.var 13),
  S.setA (X.var 2) 14 (X.var 15),
  S.setA (X.var 2) 16 (X.var 16)]
noncomputable def k_entry_registers : Nat := 19
noncomputable def p_entry_registers : List Nat := [18]
noncomputable def b_entry_registers : List S := [
  S.ret (X.bin .add (X.bin .add (X.attr (X.var 18) 5) (X.toInt (X.attr (X.var 18) 6))) (X.toInt (X.not (X.attr (X.var 18) 7))))]
noncomputable def k_operand_pairs : Nat := 22
noncomputable def p_operand_pairs : List Nat := [21]
noncomputable def b_operand_pairs : List S := [
  S.ret (X.fresh (Y.zip (X.sub (X.tab 20) (X.sub (X.var 21) (X.int 0))) (X.tl (X.var 21))))]
noncomputable def k_registers_read : Nat := 31
noncomputable def p_registers_read : List Nat := [21]
noncomputable def b_registers_read : List S := [
  S.own 0 (Y.disp []),
  S.for2 23 25 (X.call 22 [(X.var 21)]) [S.ite (X.cmp .eq (X.var 23) (X.str 24)) [S.app 0 (X.var 25)] [S.ite (X.cmp .eq (X.var 23) (X.str 26)) [S.ext 0 (X.var 25)] [S.ite (X.cmp .eq (X.var 23) (X.str 27)) [S.asg 28 (X.fresh (Y.comp 29 (X.var 25) none (X.sub (X.var 29) (X.int 0)))), S.for1 29 (X.var 25) [S.ext 0 (X.fresh (Y.comp 30 (X.sub (X.var 29) (X.int 2)) (some (X.notin (X.var 30) (X.var 28))) (X.var 30)))]] []]]],
  S.frz 0,
  S.ret (X.var 0)]
noncomputable def k_registers_written : Nat := 33
noncomputable def p_registers_written : List Nat := [21]
noncomputable def b_registers_written : List S := [
  S.own 0 (Y.disp []),
  S.for2 23 25 (X.call 22 [(X.var 21)]) [S.ite (X.cmp .eq (X.var 23) (X.str 32)) [S.app 0 (X.var 25)] [S.ite (X.cmp .eq (X.var 23) (X.str 27)) [S.ext 0 (X.fresh (Y.comp 29 (X.var 25) none (X.sub (X.var 29) (X.int 0))))] []]],
  S.frz 0,
  S.ret (X.var 0)]
noncomputable def k_label_of : Nat := 35
noncomputable def p_label_of : List Nat := [21]
noncomputable def b_label_of : List S := [
  S.for2 23 25 (X.call 22 [(X.var 21)]) [S.ite (X.cmp .eq (X.var 23) (X.str 34)) [S.ret (X.var 25)] []],
  S.ret X.none]
noncomputable def k_places_behind : Nat := 38
noncomputable def p_places_behind : List Nat := [10, 36]
noncomputable def b_places_behind : List S := [
  S.asg 21 (X.sub (X.var 10) (X.var 36)),
  S.own 0 (Y.ite (X.isin (X.sub (X.var 21) (X.int 0)) (X.tab 37)) (Y.disp []) (Y.disp [(X.bin .add (X.var 36) (X.int 1))])),
  S.asg 34 (X.call 35 [(X.var 21)]),
  S.ite (X.bop true [(X.isNN (X.var 34)), (X.notinO (X.var 34) 0)]) [S.app 0 (X.var 34)] [],
  S.frz 0,
  S.ret (X.var 0)]
noncomputable def k_is_count : Nat := 40
noncomputable def p_is_count : List Nat := [39]
noncomputable def b_is_count : List S := [
  S.ret (X.bop true [(X.isi (X.var 39) 0), (X.not (X.isi (X.var 39) 1)), (X.cmp .ge (X.var 39) (X.int 0))])]
noncomputable def k_is_below : Nat := 42
noncomputable def p_is_below : List Nat := [39, 41]
noncomputable def b_is_below : List S := [
  S.ret (X.bop true [(X.call 40 [(X.var 39)]), (X.cmp .lt (X.var 39) (X.var 41))])]
noncomputable def k_are_registers : Nat := 44
noncomputable def p_are_registers : List Nat := [39, 18]
noncomputable def b_are_registers : List S := [
  S.ret (X.bop true [(X.isi (X.var 39) 2), (X.all (X.fresh (Y.comp 43 (X.var 39) none (X.call 42 [(X.var 43), (X.attr (X.var 18) 8)]))))])]
noncomputable def k_is_closure_row : Nat := 46
noncomputable def p_is_closure_row : List Nat := [45, 18, 29]
noncomputable def b_is_closure_row : List S := [
  S.ite (X.bop false [(X.not (X.isi (X.var 29) 2)), (X.cmp .ne (X.len (X.var 29)) (X.int 3)), (X.not (X.call 42 [(X.sub (X.var 29) (X.int 0)), (X.attr (X.var 18) 8)]))]) [S.ret (X.bool false)] [],
  S.ite (X.bop false [(X.not (X.call 42 [(X.sub (X.var 29) (X.int 1)), (X.len (X.attr (X.var 45) 12))])), (X.not (X.call 44 [(X.sub (X.var 29) (X.int 2)), (X.var 18)]))]) [S.ret (X.bool false)] [],
  S.ret (X.cmp .eq (X.len (X.sub (X.var 29) (X.int 2))) (X.attr (X.sub (X.attr (X.var 45) 12) (X.sub (X.var 29) (X.int 1))) 9))]
noncomputable def k_are_closure_rows : Nat := 47
noncomputable def p_are_closure_rows : List Nat := [45, 18, 27]
noncomputable def b_are_closure_rows : List S := [
  S.ite (X.bop false [(X.not (X.isi (X.var 27) 2)), (X.cmp .eq (X.var 27) (X.tup [])), (X.not (X.all (X.fresh (Y.comp 29 (X.var 27) none (X.call 46 [(X.var 45), (X.var 18), (X.var 29)])))))]) [S.ret (X.bool false)] [],
  S.asg 8 (X.fresh (Y.comp 29 (X.var 27) none (X.sub (X.var 29) (X.int 0)))),
  S.ret (X.cmp .eq (X.lenset (X.var 8)) (X.len (X.var 8)))]
noncomputable def k_operand_fits : Nat := 53
noncomputable def p_operand_fits : List Nat := [45, 18, 52, 23, 25]
noncomputable def b_operand_fits : List S := [
  S.ite (X.isin (X.var 23) (X.tup [(X.str 32), (X.str 24)])) [S.ret (X.call 42 [(X.var 25), (X.attr (X.var 18) 8)])] [],
  S.ite (X.cmp .eq (X.var 23) (X.str 26)) [S.ret (X.call 44 [(X.var 25), (X.var 18)])] [],
  S.ite (X.cmp .eq (X.var 23) (X.str 27)) [S.ret (X.call 47 [(X.var 45), (X.var 18), (X.var 25)])] [],
  S.asg 48 (X.dict [(X.str 49), (X.len (X.attr (X.var 45) 13)), (X.str 50), (X.len (X.attr (X.var 45) 14)), (X.str 9), (X.attr (X.var 18) 9), (X.str 18), (X.len (X.attr (X.var 45) 12)), (X.str 51), (X.var 52), (X.str 34), (X.len (X.attr (X.var 18) 10))]),
  S.ret (X.call 42 [(X.var 25), (X.sub (X.var 48) (X.var 23))])]
noncomputable def k_instruction_word : Nat := 56
noncomputable def p_instruction_word : List Nat := [45, 18, 52, 21]
noncomputable def b_instruction_word : List S := [
  S.ite (X.bop false [(X.not (X.isi (X.var 21) 2)), (X.cmp .eq (X.var 21) (X.tup [])), (X.notin (X.sub (X.var 21) (X.int 0)) (X.tab 20))]) [S.ret (X.str 21)] [],
  S.ite (X.cmp .ne (X.len (X.var 21)) (X.bin .add (X.int 1) (X.len (X.sub (X.tab 20) (X.sub (X.var 21) (X.int 0)))))) [S.ret (X.str 54)] [],
  S.for2 23 25 (X.call 22 [(X.var 21)]) [S.ite (X.not (X.call 53 [(X.var 45), (X.var 18), (X.var 52), (X.var 23), (X.var 25)])) [S.ret (X.var 23)] []],
  S.ite (X.bop true [(X.cmp .eq (X.sub (X.var 21) (X.int 0)) (X.str 55)), (X.not (X.call 46 [(X.var 45), (X.var 18), (X.tl (X.var 21))]))]) [S.ret (X.str 55)] [],
  S.ret X.none]
noncomputable def k_mask_of : Nat := 57
noncomputable def p_mask_of : List Nat := [8]
noncomputable def b_mask_of : List S := [
  S.asg 0 (X.int 0),
  S.for1 30 (X.var 8) [S.asg 0 (X.bin .bor (X.var 0) (X.bin .shl (X.int 1) (X.var 30)))],
  S.ret (X.var 0)]
noncomputable def k_written_ahead : Nat := 61
noncomputable def p_written_ahead : List Nat := [18]
noncomputable def b_written_ahead : List S := [
  S.asg 10 (X.attr (X.var 18) 10),
  S.own 0 (Y.rep (X.fresh (Y.disp [(X.neg 1)])) (X.len (X.var 10))),
  S.setO 0 (X.int 0) (X.bin .sub (X.bin .shl (X.int 1) (X.call 19 [(X.var 18)])) (X.int 1)),
  S.own 1 (Y.disp [(X.int 0)]),
  S.whil 400 (X.neE 1) [S.pop 36 1, S.asg 58 (X.bin .bor (X.osub 0 (X.var 36)) (X.call 57 [(X.call 33 [(X.sub (X.var 10) (X.var 36))])])), S.for1 60 (X.call 38 [(X.var 10), (X.var 36)]) [S.asg 59 (X.ite (X.cmp .eq (X.osub 0 (X.var 60)) (X.neg 1)) (X.var 58) (X.bin .band (X.osub 0 (X.var 60)) (X.var 58))), S.ite (X.cmp .ne (X.var 59) (X.osub 0 (X.var 60))) [S.setO 0 (X.var 60) (X.var 59), S.app 1 (X.var 60)] []]],
  S.frz 0,
  S.ret (X.var 0)]
noncomputable def k_unread_place : Nat := 64
noncomputable def p_unread_place : List Nat := [18]
noncomputable def b_unread_place : List S := [
  S.asg 62 (X.call 61 [(X.var 18)]),
  S.forE 36 21 (X.attr (X.var 18) 10) [S.ite (X.cmp .ne (X.sub (X.var 62) (X.var 36)) (X.neg 1)) [S.asg 63 (X.call 57 [(X.call 31 [(X.var 21)])]), S.ite (X.cmp .ne (X.bin .band (X.var 63) (X.sub (X.var 62) (X.var 36))) (X.var 63)) [S.ret (X.var 36)] []] []],
  S.ret X.none]
noncomputable def k_head_word : Nat := 68
noncomputable def p_head_word : List Nat := [45, 36]
noncomputable def b_head_word : List S := [
  S.asg 18 (X.sub (X.attr (X.var 45) 12) (X.var 36)),
  S.asg 65 (X.tup [(X.attr (X.var 18) 5), (X.attr (X.var 18) 8), (X.attr (X.var 18) 9)]),
  S.ite (X.cmp .ne (X.attr (X.var 18) 3) (X.var 36)) [S.ret (X.str 3)] [],
  S.ite (X.not (X.all (X.fresh (Y.comp 66 (X.var 65) none (X.call 40 [(X.var 66)]))))) [S.ret (X.str 66)] [],
  S.ite (X.cmp .lt (X.attr (X.var 18) 8) (X.call 19 [(X.var 18)])) [S.ret (X.str 8)] [],
  S.ite (X.cmp .eq (X.len (X.attr (X.var 18) 10)) (X.int 0)) [S.ret (X.str 67)] [],
  S.ret X.none]
noncomputable def k_procedure_error : Nat := 74
noncomputable def p_procedure_error : List Nat := [45, 36, 52]
noncomputable def b_procedure_error : List S := [
  S.asg 69 (X.call 68 [(X.var 45), (X.var 36)]),
  S.ite (X.isNN (X.var 69)) [S.ret (X.tup [(X.neg 1), (X.var 69)])] [],
  S.asg 18 (X.sub (X.attr (X.var 45) 12) (X.var 36)),
  S.forE 70 21 (X.attr (X.var 18) 10) [S.asg 69 (X.call 56 [(X.var 45), (X.var 18), (X.var 52), (X.var 21)]), S.ite (X.isNN (X.var 69)) [S.ret (X.tup [(X.var 70), (X.var 69)])] []],
  S.asg 71 (X.bin .sub (X.len (X.attr (X.var 18) 10)) (X.int 1)),
  S.ite (X.notin (X.sub (X.sub (X.attr (X.var 18) 10) (X.var 71)) (X.int 0)) (X.tab 37)) [S.ret (X.tup [(X.var 71), (X.str 72)])] [],
  S.asg 70 (X.call 64 [(X.var 18)]),
  S.ret (X.ite (X.isN (X.var 70)) X.none (X.tup [(X.var 70), (X.str 73)]))]
noncomputable def k_start_word : Nat := 76
noncomputable def p_start_word : List Nat := [45]
noncomputable def b_start_word : List S := [
  S.ite (X.not (X.call 42 [(X.attr (X.var 45) 16), (X.len (X.attr (X.var 45) 12))])) [S.ret (X.str 16)] [],
  S.asg 16 (X.sub (X.attr (X.var 45) 12) (X.attr (X.var 45) 16)),
  S.asg 75 (X.bop true [(X.cmp .eq (X.attr (X.var 16) 5) (X.int 0)), (X.not (X.attr (X.var 16) 6)), (X.not (X.attr (X.var 16) 7)), (X.cmp .eq (X.attr (X.var 16) 9) (X.int 0))]),
  S.ret (X.ite (X.var 75) X.none (X.str 16))]
noncomputable def k_unit_error : Nat := 77
noncomputable def p_unit_error : List Nat := [45, 52]
noncomputable def b_unit_error : List S := [
  S.asg 69 (X.call 76 [(X.var 45)]),
  S.ite (X.isNN (X.var 69)) [S.ret (X.tup [(X.neg 1), (X.neg 1), (X.var 69)])] [],
  S.forR 36 (X.len (X.attr (X.var 45) 12)) [S.asg 0 (X.call 74 [(X.var 45), (X.var 36), (X.var 52)]), S.ite (X.isNN (X.var 0)) [S.ret (X.tup [(X.var 36), (X.sub (X.var 0) (X.int 0)), (X.sub (X.var 0) (X.int 1))])] []],
  S.ret X.none]
noncomputable def k_law_pot : Nat := 79
noncomputable def p_law_pot : List Nat := [78]
noncomputable def b_law_pot : List S := [
  S.ret (X.mlst [(X.fresh (Y.listOf (X.fresh (Y.slice (X.var 78) none (some (X.int 63)))))), (X.int 0), (X.bin .add (X.sumOf (X.fresh (Y.comp 43 (X.fresh (Y.slice (X.var 78) none (some (X.int 63)))) none (X.bin .mod (X.toInt (X.var 43)) (X.int 1009))))) (X.int 3))])]
noncomputable def k_law_dip : Nat := 82
noncomputable def p_law_dip : List Nat := [80, 81]
noncomputable def b_law_dip : List S := [
  S.asg 70 (X.sub (X.var 80) (X.int 1)),
  S.setM (X.var 80) (X.int 1) (X.bin .add (X.var 70) (X.int 1)),
  S.ite (X.cmp .lt (X.var 70) (X.len (X.sub (X.var 80) (X.int 0)))) [S.ret (X.bin .mod (X.sub (X.sub (X.var 80) (X.int 0)) (X.var 70)) (X.var 81))] [],
  S.setM (X.var 80) (X.int 2) (X.bin .mod (X.bin .add (X.bin .mul (X.sub (X.var 80) (X.int 2)) (X.int 75)) (X.int 74)) (X.int 65537)),
  S.ret (X.bin .mod (X.sub (X.var 80) (X.int 2)) (X.var 81))]
noncomputable def k_law_body : Nat := 94
noncomputable def p_law_body : List Nat := [92]
noncomputable def b_law_body : List S := [
  S.asg 0 (X.fresh (Y.disp [(X.tup [(X.str 83), (X.int 3), (X.int 1)]), (X.tup [(X.str 84), (X.int 4), (X.int 3)]), (X.tup [(X.str 9), (X.int 5), (X.int 1)]), (X.tup [(X.str 50), (X.int 3), (X.int 0)]), (X.tup [(X.str 85), (X.int 0), (X.int 4)]), (X.tup [(X.str 86), (X.int 1), (X.int 5)])])),
  S.asg 0 (X.fresh (Y.cat (X.var 0) (X.fresh (Y.disp [(X.tup [(X.str 87), (X.int 4), (X.int 2), (X.tup [(X.int 3), (X.int 5)])]), (X.tup [(X.str 55), (X.int 3), (X.int 1), (X.tup [(X.int 4), (X.int 5)])]), (X.tup [(X.str 88), (X.tup [(X.tup [(X.int 4), (X.int 1), (X.tup [(X.int 3), (X.int 4)])]), (X.tup [(X.int 5), (X.int 1), (X.tup [(X.int 4), (X.int 5)])])])])])))),
  S.asg 0 (X.fresh (Y.cat (X.var 0) (X.fresh (Y.disp [(X.tup [(X.str 89), (X.int 4), (X.int 12)]), (X.tup [(X.str 90), (X.int 12)]), (X.tup [(X.str 91), (X.int 0), (X.tup [(X.int 3)])])])))),
  S.ret (X.fresh (Y.cat (X.var 0) (X.ite (X.cmp .eq (X.var 92) (X.int 0)) (X.fresh (Y.disp [(X.tup [(X.str 93), (X.int 3), (X.int 0), (X.tup [(X.int 4), (X.int 5)])])])) (X.fresh (Y.disp [(X.tup [(X.str 91), (X.int 0), (X.tup [(X.int 1), (X.int 2), (X.int 4)])])])))))]
noncomputable def k_law_led : Nat := 99
noncomputable def p_law_led : List Nat := [96, 97]
noncomputable def b_law_led : List S := [
  S.unp [95, 60] (X.var 96),
  S.unp [69, 28] (X.tup [(X.sub (X.var 97) (X.int 0)), (X.fresh (Y.comp 98 (X.tl (X.var 97)) none (X.ite (X.isi (X.var 98) 0) (X.dget (X.var 95) (X.var 98) (X.var 98)) (X.var 98))))]),
  S.own 27 (Y.comp 98 (X.var 28) none (X.ite (X.bop true [(X.isi (X.var 98) 2), (X.cmp .ne (X.var 69) (X.str 88))]) (X.tupOf (X.fresh (Y.comp 43 (X.var 98) none (X.dget (X.var 95) (X.var 43) (X.var 43))))) (X.var 98))),
  S.ite (X.cmp .eq (X.var 69) (X.str 88)) [S.own 27 (Y.disp [(X.tupOf (X.fresh (Y.comp 29 (X.sub (X.var 97) (X.int 1)) none (X.tup [(X.sub (X.var 95) (X.sub (X.var 29) (X.int 0))), (X.sub (X.var 29) (X.int 1)), (X.tupOf (X.fresh (Y.comp 43 (X.sub (X.var 29) (X.int 2)) none (X.sub (X.var 95) (X.var 43)))))]))))])] [],
  S.ite (X.isin (X.var 69) (X.tup [(X.str 83), (X.str 9), (X.str 50), (X.str 55), (X.str 87)])) [S.setO 27 (X.int 1) (X.sub (X.var 97) (X.int 2))] [],
  S.ite (X.isin (X.var 69) (X.tup [(X.str 85), (X.str 86)])) [S.setO 27 (X.int 0) (X.sub (X.var 97) (X.int 1))] [],
  S.ite (X.bop true [(X.isin (X.var 69) (X.tup [(X.str 90), (X.str 89)])), (X.cmp .gt (X.len (X.var 97)) (X.int 1))]) [S.setO 27 (X.neg 1) (X.bin .add (X.sub (X.var 97) (X.neg 1)) (X.var 60))] [],
  S.frz 27,
  S.ret (X.tupOf (X.fresh (Y.cat (X.fresh (Y.disp [(X.var 69)])) (X.var 27))))]
noncomputable def k_law_unit : Nat := 102
noncomputable def p_law_unit : List Nat := [96]
noncomputable def b_law_unit : List S := [
  S.asg 16 (X.fresh (Y.disp [(X.tup [(X.str 83), (X.int 1), (X.int 0)]), (X.tup [(X.str 55), (X.int 2), (X.int 1), (X.tup [(X.int 1), (X.int 1)])]), (X.tup [(X.str 93), (X.int 2), (X.int 0), (X.tup [(X.int 1), (X.int 1)])])])),
  S.own 27 (Y.disp [(X.new 11 [(X.int 0), (X.str 16), (X.int 0), (X.bool false), (X.bool false), (X.int 3), (X.int 0), (X.var 16)])]),
  S.asg 62 (X.fresh (Y.rep (X.fresh (Y.disp [(X.tup [(X.str 84), (X.int 1), (X.int 2)])])) (X.sub (X.var 96) (X.int 1)))),
  S.for1 3 (X.tup [(X.int 1), (X.int 2)]) [S.asg 100 (X.fresh (Y.cat (X.var 62) (X.fresh (Y.comp 97 (X.call 94 [(X.bin .sub (X.var 3) (X.int 1))]) none (X.call 99 [(X.var 96), (X.var 97)]))))), S.app 27 (X.new 11 [(X.var 3), (X.str 101), (X.int 2), (X.cmp .eq (X.var 3) (X.int 2)), (X.cmp .eq (X.var 3) (X.int 2)), (X.int 6), (X.int 2), (X.var 100)])],
  S.frz 27,
  S.ret (X.new 17 [(X.var 27), (X.fresh (Y.disp [(X.int 7), (X.int 8)])), (X.fresh (Y.disp [(X.int 3), (X.int 4)])), (X.int 0)])]
noncomputable def k_law_put : Nat := 104
noncomputable def p_law_put : List Nat := [28, 96, 36, 21]
noncomputable def b_law_put : List S := [
  S.asg 103 (X.bin .add (X.var 36) (X.sub (X.var 96) (X.int 1))),
  S.setA (X.var 28) 10 (X.fresh (Y.cat (X.fresh (Y.cat (X.fresh (Y.slice (X.attr (X.var 28) 10) none (some (X.var 103)))) (X.fresh (Y.disp [(X.call 99 [(X.var 96), (X.var 21)])])))) (X.fresh (Y.slice (X.attr (X.var 28) 10) (some (X.bin .add (X.var 103) (X.int 1))) none)))),
  S.ret (X.var 103)]
noncomputable def k_law_headed : Nat := 106
noncomputable def p_law_headed : List Nat := [45, 105, 3]
noncomputable def b_law_headed : List S := [
  S.asg 28 (X.sub (X.attr (X.var 45) 12) (X.var 3)),
  S.ite (X.cmp .eq (X.var 105) (X.int 0)) [S.setA (X.var 28) 3 (X.int 7), S.ret (X.tup [(X.var 3), (X.neg 1), (X.str 3)])] [],
  S.ite (X.cmp .eq (X.var 105) (X.int 1)) [S.setA (X.var 28) 8 (X.int 2), S.ret (X.tup [(X.var 3), (X.neg 1), (X.str 8)])] [],
  S.ite (X.cmp .eq (X.var 105) (X.int 2)) [S.setA (X.var 28) 10 (X.fresh (Y.disp [])), S.ret (X.tup [(X.var 3), (X.neg 1), (X.str 67)])] [],
  S.ite (X.cmp .eq (X.var 105) (X.int 3)) [S.setA (X.var 28) 5 (X.neg 1), S.ret (X.tup [(X.var 3), (X.neg 1), (X.str 66)])] [],
  S.setA (X.var 45) 16 (X.sub (X.fresh (Y.disp [(X.int 3), (X.int 1), (X.neg 1)])) (X.var 3)),
  S.ret (X.tup [(X.neg 1), (X.neg 1), (X.str 16)])]
noncomputable def k_law_operand : Nat := 109
noncomputable def p_law_operand : List Nat := [28, 96, 105, 3]
noncomputable def b_law_operand : List S := [
  S.asg 107 (X.fresh (Y.disp [(X.tup [(X.int 0), (X.tup [(X.str 83), (X.int 6), (X.int 1)]), (X.str 32)]), (X.tup [(X.int 0), (X.tup [(X.str 83), (X.int 3), (X.int 2)]), (X.str 49)]), (X.tup [(X.int 1), (X.tup [(X.str 84), (X.int 4), (X.neg 1)]), (X.str 24)])])),
  S.asg 107 (X.fresh (Y.cat (X.var 107) (X.fresh (Y.disp [(X.tup [(X.int 2), (X.tup [(X.str 9), (X.int 5), (X.int 2)]), (X.str 9)]), (X.tup [(X.int 3), (X.tup [(X.str 50), (X.int 3), (X.int 2)]), (X.str 50)]), (X.tup [(X.int 6), (X.tup [(X.str 87), (X.int 4), (X.int 9), (X.tup [(X.int 3), (X.int 5)])]), (X.str 51)])])))),
  S.asg 107 (X.fresh (Y.cat (X.var 107) (X.fresh (Y.disp [(X.tup [(X.int 7), (X.tup [(X.str 55), (X.int 3), (X.int 1), (X.tup [(X.int 4)])]), (X.str 55)]), (X.tup [(X.int 7), (X.tup [(X.str 55), (X.int 3), (X.int 3), (X.tup [(X.int 4), (X.int 5)])]), (X.str 18)])])))),
  S.asg 107 (X.fresh (Y.cat (X.var 107) (X.fresh (Y.disp [(X.tup [(X.int 8), (X.tup [(X.str 88), (X.tup [(X.tup [(X.int 4), (X.int 1), (X.tup [(X.int 3)])])])]), (X.str 27)]), (X.tup [(X.int 8), (X.tup [(X.str 88), (X.tup [(X.tup [(X.int 4), (X.int 1), (X.tup [(X.int 3), (X.int 4)])]), (X.tup [(X.int 4), (X.int 1), (X.tup [(X.int 4), (X.int 5)])])])]), (X.str 27)])])))),
  S.asg 107 (X.fresh (Y.cat (X.var 107) (X.fresh (Y.disp [(X.tup [(X.int 9), (X.tup [(X.str 89), (X.int 4), (X.int 13)]), (X.str 34)]), (X.tup [(X.int 6), (X.tup [(X.str 87), (X.int 4), (X.int 2), (X.tup [(X.int 3), (X.int 6)])]), (X.str 26)]), (X.tup [(X.int 10), (X.tup [(X.str 90)]), (X.str 54)])])))),
  S.asg 107 (X.fresh (Y.cat (X.var 107) (X.fresh (Y.disp [(X.tup [(X.int 11), (X.tup [(X.str 108), (X.int 0), (X.tup [(X.int 3)])]), (X.str 21)]), (X.tup [(X.int 12), (X.tup [(X.str 84), (X.int 3), (X.int 4)]), (X.str 72)])])))),
  S.unp [36, 21, 69] (X.sub (X.var 107) (X.bin .mod (X.var 105) (X.len (X.var 107)))),
  S.ret (X.tup [(X.var 3), (X.call 104 [(X.var 28), (X.var 96), (X.var 36), (X.var 21)]), (X.var 69)])]
noncomputable def k_law_early : Nat := 110
noncomputable def p_law_early : List Nat := [28, 96, 105, 3]
noncomputable def b_law_early : List S := [
  S.ite (X.cmp .eq (X.var 105) (X.int 0)) [S.ret (X.tup [(X.var 3), (X.bin .add (X.call 104 [(X.var 28), (X.var 96), (X.int 2), (X.tup [(X.str 90), (X.int 6)])]) (X.int 4)), (X.str 73)])] [],
  S.ite (X.cmp .eq (X.var 105) (X.int 1)) [S.ret (X.tup [(X.var 3), (X.bin .add (X.call 104 [(X.var 28), (X.var 96), (X.int 0), (X.tup [(X.str 89), (X.int 1), (X.int 12)])]) (X.int 1)), (X.str 73)])] [],
  S.expr (X.call 104 [(X.var 28), (X.var 96), (X.int 8), (X.tup [(X.str 88), (X.tup [(X.tup [(X.int 4), (X.int 1), (X.tup [(X.int 3), (X.int 4)])])])])]),
  S.ret (X.tup [(X.var 3), (X.bin .add (X.call 104 [(X.var 28), (X.var 96), (X.int 2), (X.tup [(X.str 84), (X.int 4), (X.int 3)])]) (X.int 3)), (X.str 73)])]
noncomputable def k_law : Nat := 114
noncomputable def p_law : List Nat := [78]
noncomputable def b_law : List S := [
  S.asg 80 (X.call 79 [(X.var 78)]),
  S.unp [105, 3, 111] (X.tup [(X.call 82 [(X.var 80), (X.int 23)]), (X.bin .add (X.int 1) (X.call 82 [(X.var 80), (X.int 2)])), (X.call 82 [(X.var 80), (X.int 6)])]),
  S.asg 112 (X.fresh (Y.comp 43 (X.tup [(X.int 3), (X.int 4), (X.int 5)]) (some (X.cmp .ne (X.var 43) (X.bin .add (X.int 3) (X.bin .mod (X.var 111) (X.int 3))))) (X.var 43))),
  S.asg 95 (X.dict [(X.int 3), (X.bin .add (X.int 3) (X.bin .mod (X.var 111) (X.int 3))), (X.int 4), (X.sub (X.var 112) (X.bin .fdiv (X.var 111) (X.int 3))), (X.int 5), (X.sub (X.var 112) (X.bin .sub (X.int 1) (X.bin .fdiv (X.var 111) (X.int 3))))]),
  S.asg 96 (X.tup [(X.var 95), (X.call 82 [(X.var 80), (X.int 9)])]),
  S.asg 45 (X.call 102 [(X.var 96)]),
  S.ite (X.isNN (X.call 77 [(X.var 45), (X.int 3)])) [S.ret (X.bool false)] [],
  S.asg 28 (X.sub (X.attr (X.var 45) 12) (X.var 3)),
  S.ite (X.cmp .lt (X.var 105) (X.int 5)) [S.asg 113 (X.call 106 [(X.var 45), (X.var 105), (X.ite (X.cmp .lt (X.var 105) (X.int 4)) (X.var 3) (X.call 82 [(X.var 80), (X.int 3)]))])] [S.ite (X.cmp .lt (X.var 105) (X.int 20)) [S.asg 113 (X.call 109 [(X.var 28), (X.var 96), (X.bin .sub (X.var 105) (X.int 5)), (X.var 3)])] [S.asg 113 (X.call 110 [(X.var 28), (X.var 96), (X.bin .sub (X.var 105) (X.int 20)), (X.var 3)])]],
  S.ret (X.bop true [(X.cmp .eq (X.call 77 [(X.var 45), (X.int 3)]) (X.var 113)), (X.isN (X.call 77 [(X.call 102 [(X.var 96)]), (X.int 3)]))])]
noncomputable def t_OPERANDS : AV := .dct [.str 83, .str 84, .str 50, .str 85, .str 86, .str 9, .str 55, .str 88, .str 87, .str 90, .str 89, .str 93, .str 91] [.tup [.str 32, .str 49], .tup [.str 32, .str 24], .tup [.str 32, .str 50], .tup [.str 50, .str 24], .tup [.str 50, .str 24], .tup [.str 32, .str 9], .tup [.str 32, .str 18, .str 26], .tup [.str 27], .tup [.str 32, .str 51, .str 26], .tup [.str 34], .tup [.str 24, .str 34], .tup [.str 24, .str 24, .str 26], .tup [.str 24, .str 26]]
noncomputable def k_OPERANDS : Nat := 20
noncomputable def t_ENDS : AV := .tup [.str 90, .str 93, .str 91]
noncomputable def k_ENDS : Nat := 37
end Mine
/-! part MC -/
namespace Mine
open PySem PySem.W PyProof.Rows

/-! names -/
noncomputable def Wn (k : Nat) : Str := Ws.getD k (Str.ofString "")
noncomputable def noDup : List Str → Bool
  | [] => true
  | a :: r => !r.contains a && noDup r
theorem Ws_nodup : noDup Ws = true := by decide +kernel
theorem getD_inj : ∀ (l : List Str) (d : Str), noDup l = true → ∀ j k, j < l.length → k < l.length → l.getD j d = l.getD k d → j = k
  | [], _, _, j, _, hj, _, _ => absurd hj (Nat.not_lt_zero _)
  | a :: r, d, h, j, k, hj, hk, e => by
    simp only [noDup, Bool.and_eq_true, Bool.not_eq_true'] at h
    have nm : ∀ i, i < r.length → r.getD i d ≠ a := fun i hi q => by
      have hm : a ∈ r := by
        rw [← q, List.getD_eq_getElem?_getD, List.getElem?_eq_getElem hi]
        exact List.getElem_mem hi
      have := h.1
      rw [List.contains_eq_mem] at this
      simp [hm] at this
    cases j with
    | zero => cases k with
      | zero => rfl
      | succ k => exact absurd e.symm (nm k (Nat.lt_of_succ_lt_succ hk))
    | succ j => cases k with
      | zero => exact absurd e (nm j (Nat.lt_of_succ_lt_succ hj))
      | succ k => exact congrArg _ (getD_inj r d h.2 j k (Nat.lt_of_succ_lt_succ hj) (Nat.lt_of_succ_lt_succ hk) e)
theorem Ws_len : Ws.length = wmax := rfl
theorem Wn_inj {j k : Nat} (hj : j < wmax) (hk : k < wmax) (e : Wn j = Wn k) : j = k := getD_inj Ws _ Ws_nodup j k (Ws_len ▸ hj) (Ws_len ▸ hk) e

/-! the heap's frozen part, the objects, the relation -/
noncomputable abbrev Fz := Addr → Option Obj
noncomputable abbrev Ad := List (Addr × Addr)
noncomputable def fput (hf : Fz) (a : Addr) (o : Obj) : Fz := fun b => if b = a then some o else hf b

section
variable (prog : Program) (w : World) (cls : Nat → Addr)
mutual
noncomputable def VRel (ad : Ad) (hf : Fz) : AV → Value → Prop
  | .none, v => v = .none
  | .bool b, v => v = .bool b
  | .int i, v => ∃ t, v = .int i t
  | .str k, v => k < wmax ∧ ∃ t, v = .str (Wn k) t
  | .tup l, v => ∃ a vs n, v = .ref a ∧ hf a = some { cls := .type "tuple", data := .seq (List.toArray vs) n } ∧ VRels ad hf l vs
  | .lst l, v => ∃ a vs n, v = .ref a ∧ hf a = some { cls := .type "list", data := .seq (List.toArray vs) n } ∧ VRels ad hf l vs
  | .dct ks us, v => ∃ a o vs, v = .ref a ∧ hf a = some o ∧ ((a == sysModules) = false ∧ ks ≠ []) ∧ VRels ad hf us vs ∧
      ((∃ ns : List Int, ks = ns.map AV.int ∧ ns.length = vs.length ∧ o.IsDictOf (intKind prog w) (ns.zip vs)) ∨
       (∃ ns : List Nat, ks = ns.map AV.str ∧ ns.length = vs.length ∧ (∀ k ∈ ns, k < wmax) ∧ o.IsDictOf (strKind prog w) ((ns.map Wn).zip vs)))
  | .obj i, v => ∃ p, ad[i]? = some p ∧ v = .ref p.1
noncomputable def VRels (ad : Ad) (hf : Fz) : List AV → List Value → Prop
  | [], vs => vs = []
  | a :: r, vs => ∃ v q, vs = v :: q ∧ VRel ad hf a v ∧ VRels ad hf r q
end
noncomputable def FRel (ad : Ad) (hf : Fz) : List (Nat × AV) → List DictEntry → Prop
  | [], es => es = []
  | (k, a) :: r, es => ∃ e q, es = e :: q ∧ k < wmax ∧ (∃ t, e.key = .str (Wn k) t) ∧ VRel prog w ad hf a e.val ∧ FRel ad hf r q
noncomputable def ORel (ad : Ad) (hf : Fz) (h : Heap) (p : Addr × Addr) : AO → Prop
  | .inst c fs => p.1 ≠ p.2 ∧ fs.length ≤ 100 ∧ ∃ es n, h.get? p.1 = some (instObj (cls c) p.2) ∧ h.get? p.2 = some (dictOf es n) ∧ FRel prog w ad hf fs es
  | .mlst l => p.1 = p.2 ∧ ∃ vs n, h.get? p.1 = some { cls := .type "list", data := .seq (List.toArray vs) n } ∧ VRels prog w ad hf l vs
noncomputable def Off (ad : Ad) (a : Addr) : Prop := ∀ p ∈ ad, a ≠ p.1 ∧ a ≠ p.2

structure ExtF (ad : Ad) (hf : Fz) (g : Fz) (ad' : Ad) (hf' : Fz) (h' : Heap) : Prop where
  hm : ∀ a o, hf a = some o → hf' a = some o
  hn : ∀ a o, g a = some o → Off ad a → hf a = none → hf' a = none
  ap : ∃ l, ad' = ad ++ l ∧ ∀ p ∈ l, g p.1 = none ∧ g p.2 = none
  kp : ∀ a o, g a = some o → Off ad a → h'.get? a = some o
  ke : ∀ a o, g a = some o → ∃ o', h'.get? a = some o'
noncomputable abbrev Ext (ad : Ad) (hf : Fz) (h : Heap) (ad' : Ad) (hf' : Fz) (h' : Heap) : Prop := ExtF ad hf h.get? ad' hf' h'

structure Sit (h₀ : Heap) (ad : Ad) (hf : Fz) (σ : Sto) (h : Heap) : Prop where
  base : ∀ a o, h₀.get? a = some o → hf a = some o
  fro : ∀ a o, hf a = some o → h.get? a = some o
  len : ad.length = σ.length
  ob : ∀ (i : Nat) (p : Addr × Addr) (o : AO), ad[i]? = some p → σ[i]? = some o → ORel prog w cls ad hf h p o
  pr : ∀ p ∈ ad, hf p.1 = none ∧ hf p.2 = none
  dj : ad.Pairwise fun p q => p.1 ≠ q.1 ∧ p.1 ≠ q.2 ∧ p.2 ≠ q.1 ∧ p.2 ≠ q.2
end

section
variable {prog : Program} {w : World} {cls : Nat → Addr} {h₀ h h' h'' : Heap} {ad ad' ad'' : Ad} {hf hf' hf'' : Fz} {σ σ' : Sto}
noncomputable def Pre (ad ad' : Ad) : Prop := ∃ l, ad' = ad ++ l
theorem Pre.get {i : Nat} {p : Addr × Addr} (e : Pre ad ad') (q : ad[i]? = some p) : ad'[i]? = some p := by
  obtain ⟨l, rfl⟩ := e
  have hi := (List.getElem?_eq_some_iff.mp q).1
  rw [List.getElem?_append_left hi]; exact q
theorem ExtF.pre {g : Fz} (e : ExtF ad hf g ad' hf' h') : Pre ad ad' := let ⟨l, q, _⟩ := e.ap; ⟨l, q⟩

mutual
theorem VRel.mono (hp : Pre ad ad') (hm : ∀ a o, hf a = some o → hf' a = some o) : ∀ {a : AV} {v : Value}, VRel prog w ad hf a v → VRel prog w ad' hf' a v
  | .none, _, x => by rw [VRel] at x ⊢; exact x
  | .bool _, _, x => by rw [VRel] at x ⊢; exact x
  | .int _, _, x => by rw [VRel] at x ⊢; exact x
  | .str _, _, x => by rw [VRel] at x ⊢; exact x
  | .tup l, _, x => by
    rw [VRel] at x ⊢
    obtain ⟨a, vs, n, e, q, r⟩ := x
    exact ⟨a, vs, n, e, hm _ _ q, VRels.mono hp hm r⟩
  | .lst l, _, x => by
    rw [VRel] at x ⊢
    obtain ⟨a, vs, n, e, q, r⟩ := x
    exact ⟨a, vs, n, e, hm _ _ q, VRels.mono hp hm r⟩
  | .dct ks us, _, x => by
    rw [VRel] at x ⊢
    obtain ⟨a, o, vs, e, q, c, r, d⟩ := x
    exact ⟨a, o, vs, e, hm _ _ q, c, VRels.mono hp hm r, d⟩
  | .obj i, _, x => by
    rw [VRel] at x ⊢
    obtain ⟨p, q, e⟩ := x
    exact ⟨p, hp.get q, e⟩
theorem VRels.mono (hp : Pre ad ad') (hm : ∀ a o, hf a = some o → hf' a = some o) : ∀ {l : List AV} {vs : List Value}, VRels prog w ad hf l vs → VRels prog w ad' hf' l vs
  | [], _, x => by rw [VRels] at x ⊢; exact x
  | a :: r, _, x => by
    rw [VRels] at x ⊢
    obtain ⟨v, q, e, y, z⟩ := x
    exact ⟨v, q, e, VRel.mono hp hm y, VRels.mono hp hm z⟩
end
theorem FRel.mono (hp : Pre ad ad') (hm : ∀ a o, hf a = some o → hf' a = some o) : ∀ {fs : List (Nat × AV)} {es : List DictEntry}, FRel prog w ad hf fs es → FRel prog w ad' hf' fs es
  | [], _, x => x
  | (k, a) :: r, _, x => by
    obtain ⟨e, q, h1, h2, h3, h4, h5⟩ := x
    exact ⟨e, q, h1, h2, h3, h4.mono hp hm, FRel.mono hp hm h5⟩
theorem Off.of_app {a : Addr} {l : Ad} (x : Off ad a) (y : Off l a) : Off (ad ++ l) a := fun p hp => by
  rcases List.mem_append.mp hp with q | q
  · exact x p q
  · exact y p q
theorem ExtF.off {g : Fz} (e : ExtF ad hf g ad' hf' h') {a : Addr} {o : Obj} (q : g a = some o) (x : Off ad a) : Off ad' a := by
  obtain ⟨l, rfl, hl⟩ := e.ap
  refine x.of_app fun p hp => ⟨fun z => ?_, fun z => ?_⟩
  · rw [z, (hl p hp).1] at q; cases q
  · rw [z, (hl p hp).2] at q; cases q
theorem Ext.refl (ad : Ad) (hf : Fz) (h : Heap) : Ext ad hf h ad hf h := ⟨fun _ _ e => e, fun _ _ _ _ e => e, ⟨[], (List.append_nil _).symm, fun _ hp => nomatch hp⟩, fun _ _ e _ => e, fun _ o e => ⟨o, e⟩⟩
theorem ExtF.trans {g : Fz} (x : ExtF ad hf g ad' hf' h') (y : Ext ad' hf' h' ad'' hf'' h'') : ExtF ad hf g ad'' hf'' h'' := by
  refine ⟨fun a o e => y.hm _ _ (x.hm _ _ e), fun a o e f n => y.hn a o (x.kp a o e f) (x.off e f) (x.hn a o e f n), ?_, fun a o e f => y.kp a o (x.kp a o e f) (x.off e f), fun a o e => let ⟨o', e'⟩ := x.ke a o e; y.ke a o' e'⟩
  obtain ⟨l, rfl, hl⟩ := x.ap
  obtain ⟨m, rfl, hm⟩ := y.ap
  refine ⟨l ++ m, List.append_assoc .., fun p hp => ?_⟩
  rcases List.mem_append.mp hp with q | q
  · exact hl p q
  · have gone : ∀ b, h'.get? b = none → g b = none := fun b e => by
      cases z : g b with
      | none => rfl
      | some o => obtain ⟨o', e'⟩ := x.ke b o z; rw [e] at e'; cases e'
    exact ⟨gone _ (hm p q).1, gone _ (hm p q).2⟩
/-- a heap that keeps all and has more -/
noncomputable def Grow (h h' : Heap) : Prop := ∀ a o, h.get? a = some o → h'.get? a = some o
theorem Grow.refl (h : Heap) : Grow h h := fun _ _ e => e
theorem Grow.trans (x : Grow h h') (y : Grow h' h'') : Grow h h'' := fun a o e => y a o (x a o e)
theorem Grow.push (h : Heap) (o : Obj) : Grow h (h.push o) := fun _ _ e => Heap.get?_push_of_some _ e
theorem Grow.of_ext {b : Addr} (x : Heap.ExtBut b h h') (hb : h.get? b = none) : Grow h h' := fun a o e => x a o (fun z => by rw [z, hb] at e; cases e) e
theorem Grow.ext (g : Grow h h') : Ext ad hf h ad hf h' := ⟨fun _ _ e => e, fun _ _ _ _ e => e, ⟨[], (List.append_nil _).symm, fun _ hp => nomatch hp⟩, fun a o e _ => g a o e, fun a o e => ⟨o, g a o e⟩⟩
theorem ORel.grow {p : Addr × Addr} (g : Grow h h') : ∀ {o : AO}, ORel prog w cls ad hf h p o → ORel prog w cls ad hf h' p o
  | .inst _ _, ⟨a, l, es, n, b, c, d⟩ => ⟨a, l, es, n, g _ _ b, g _ _ c, d⟩
  | .mlst _, ⟨a, vs, n, b, c⟩ => ⟨a, vs, n, g _ _ b, c⟩
theorem ORel.mono {p : Addr × Addr} (hp : Pre ad ad') (hm : ∀ a o, hf a = some o → hf' a = some o) : ∀ {o : AO}, ORel prog w cls ad hf h p o → ORel prog w cls ad' hf' h p o
  | .inst _ _, ⟨a, l, es, n, b, c, d⟩ => ⟨a, l, es, n, b, c, d.mono hp hm⟩
  | .mlst _, ⟨a, vs, n, b, c⟩ => ⟨a, vs, n, b, c.mono hp hm⟩
theorem Sit.grow (S : Sit prog w cls h₀ ad hf σ h) (g : Grow h h') : Sit prog w cls h₀ ad hf σ h' :=
  ⟨S.base, fun a o e => g _ _ (S.fro a o e), S.len, fun i p o a b => (S.ob i p o a b).grow g, S.pr, S.dj⟩
theorem pre_refl (ad : Ad) : Pre ad ad := ⟨[], (List.append_nil _).symm⟩
theorem fput_mono {a : Addr} {o : Obj} (hn : hf a = none) : ∀ b x, hf b = some x → fput hf a o b = some x := fun b x e => by
  unfold fput
  by_cases q : b = a
  · rw [q, hn] at e; cases e
  · rw [if_neg q]; exact e
theorem fput_same {a : Addr} {o : Obj} : fput hf a o a = some o := if_pos rfl
theorem fput_ne {a b : Addr} {o : Obj} (h : b ≠ a) : fput hf a o b = hf b := if_neg h
theorem Sit.freeze (S : Sit prog w cls h₀ ad hf σ h) {a : Addr} {o : Obj} (e : h.get? a = some o) (hn : hf a = none) (off : Off ad a) : Sit prog w cls h₀ ad (fput hf a o) σ h := by
  refine ⟨fun b x q => fput_mono hn b x (S.base b x q), fun b x q => ?_, S.len, fun i p x q r => (S.ob i p x q r).mono (pre_refl _) (fput_mono hn), fun p hp => ?_, S.dj⟩
  · unfold fput at q
    split at q
    · rename_i z; cases q; rw [z]; exact e
    · exact S.fro b x q
  · rw [fput_ne (Ne.symm (off p hp).1), fput_ne (Ne.symm (off p hp).2)]; exact S.pr p hp
/-- a new frozen object -/
theorem Sit.fresh (S : Sit prog w cls h₀ ad hf σ h) {a : Addr} (e : h.get? a = none) : hf a = none ∧ Off ad a := by
  refine ⟨?_, fun p hp => ?_⟩
  · cases q : hf a with
    | none => rfl
    | some o => rw [S.fro a o q] at e; cases e
  · obtain ⟨i, hi⟩ := List.getElem?_of_mem hp
    have hl : i < σ.length := S.len ▸ (List.getElem?_eq_some_iff.mp hi).1
    have ho := S.ob i p σ[i] hi (List.getElem?_eq_getElem hl)
    cases q : σ[i] with
    | inst c fs =>
      rw [q] at ho
      obtain ⟨_, _, es, n, b, c, _⟩ := ho
      exact ⟨fun z => (by rw [z, b] at e; cases e), fun z => (by rw [z, c] at e; cases e)⟩
    | mlst l =>
      rw [q] at ho
      obtain ⟨x, vs, n, b, _⟩ := ho
      exact ⟨fun z => (by rw [z, b] at e; cases e), fun z => (by rw [z, ← x, b] at e; cases e)⟩
theorem Sit.newFrozen (S : Sit prog w cls h₀ ad hf σ h) (g : Grow h h') {a : Addr} {o : Obj} (e : h.get? a = none) (e' : h'.get? a = some o) :
    Sit prog w cls h₀ ad (fput hf a o) σ h' ∧ Ext ad hf h ad (fput hf a o) h' := by
  obtain ⟨hn, off⟩ := S.fresh e
  refine ⟨(S.grow g).freeze e' hn off, fput_mono hn, fun b x q _ n => ?_, ⟨[], (List.append_nil _).symm, fun _ hp => nomatch hp⟩, fun b x q _ => g b x q, fun b x q => ⟨x, g b x q⟩⟩
  rw [fput_ne (fun z => by rw [z, e] at q; cases q)]; exact n
theorem size_none (h : Heap) : h.get? h.objs.size = none := Heap.get?_none_of_le (Nat.le_refl _)

/-! lists of values -/
theorem VRels.length : ∀ {l : List AV} {vs : List Value}, VRels prog w ad hf l vs → l.length = vs.length
  | [], _, x => by rw [VRels] at x; subst x; rfl
  | a :: r, _, x => by
    rw [VRels] at x
    obtain ⟨v, q, rfl, _, z⟩ := x
    simp [VRels.length z]
theorem VRels.get : ∀ {l : List AV} {vs : List Value}, VRels prog w ad hf l vs → ∀ {i : Nat} {a : AV}, l[i]? = some a → ∃ v, vs[i]? = some v ∧ VRel prog w ad hf a v
  | [], _, _, i, a, e => by cases e
  | b :: r, _, x, i, a, e => by
    rw [VRels] at x
    obtain ⟨v, q, rfl, y, z⟩ := x
    cases i with
    | zero => cases e; exact ⟨v, rfl, y⟩
    | succ i => exact VRels.get z (i := i) e
theorem VRels.get' : ∀ {l : List AV} {vs : List Value}, VRels prog w ad hf l vs → ∀ {i : Nat} {v : Value}, vs[i]? = some v → ∃ a, l[i]? = some a ∧ VRel prog w ad hf a v
  | [], _, x, i, a, e => by rw [VRels] at x; subst x; cases e
  | b :: r, _, x, i, a, e => by
    rw [VRels] at x
    obtain ⟨v, q, rfl, y, z⟩ := x
    cases i with
    | zero => cases e; exact ⟨b, rfl, y⟩
    | succ i => exact VRels.get' z (i := i) e
theorem VRels.append : ∀ {l m : List AV} {vs us : List Value}, VRels prog w ad hf l vs → VRels prog w ad hf m us → VRels prog w ad hf (l ++ m) (vs ++ us)
  | [], _, _, _, x, y => by rw [VRels] at x; subst x; exact y
  | a :: r, _, _, _, x, y => by
    rw [VRels] at x
    obtain ⟨v, q, rfl, b, z⟩ := x
    rw [List.cons_append, VRels]
    exact ⟨v, _, rfl, b, VRels.append z y⟩
theorem VRels.take : ∀ {l : List AV} {vs : List Value} (n : Nat), VRels prog w ad hf l vs → VRels prog w ad hf (l.take n) (vs.take n)
  | _, _, 0, _ => by simp only [List.take_zero]; rw [VRels]
  | [], _, n + 1, x => by rw [VRels] at x; subst x; simp only [List.take_nil]; rw [VRels]
  | a :: r, _, n + 1, x => by
    rw [VRels] at x
    obtain ⟨v, q, rfl, b, z⟩ := x
    rw [List.take_succ_cons, List.take_succ_cons, VRels]
    exact ⟨v, _, rfl, b, VRels.take n z⟩
theorem VRels.drop : ∀ {l : List AV} {vs : List Value} (n : Nat), VRels prog w ad hf l vs → VRels prog w ad hf (l.drop n) (vs.drop n)
  | _, _, 0, x => x
  | [], _, n + 1, x => by rw [VRels] at x; subst x; simp only [List.drop_nil]; rw [VRels]
  | a :: r, _, n + 1, x => by
    rw [VRels] at x
    obtain ⟨v, q, rfl, b, z⟩ := x
    exact VRels.drop n z
theorem VRels.set : ∀ {l : List AV} {vs : List Value} {i : Nat} {a : AV} {v : Value}, VRels prog w ad hf l vs → VRel prog w ad hf a v → VRels prog w ad hf (l.set i a) (vs.set i v)
  | [], _, _, _, _, x, _ => by rw [VRels] at x; subst x; simp only [List.set_nil]; rw [VRels]
  | b :: r, _, 0, _, _, x, y => by
    rw [VRels] at x
    obtain ⟨v, q, rfl, b, z⟩ := x
    rw [List.set_cons_zero, List.set_cons_zero, VRels]
    exact ⟨_, _, rfl, y, z⟩
  | b :: r, _, i + 1, _, _, x, y => by
    rw [VRels] at x
    obtain ⟨v, q, rfl, b, z⟩ := x
    rw [List.set_cons_succ, List.set_cons_succ, VRels]
    exact ⟨_, _, rfl, b, VRels.set z y⟩
theorem VRels.one {a : AV} {v : Value} (x : VRel prog w ad hf a v) : VRels prog w ad hf [a] [v] := by rw [VRels]; exact ⟨v, [], rfl, x, by rw [VRels]⟩
theorem VRels.nil : VRels prog w ad hf [] [] := by rw [VRels]
theorem VRels.cons {a : AV} {v : Value} {l : List AV} {vs : List Value} (x : VRel prog w ad hf a v) (y : VRels prog w ad hf l vs) : VRels prog w ad hf (a :: l) (v :: vs) := by rw [VRels]; exact ⟨v, vs, rfl, x, y⟩
end
end Mine
/-! part MD -/
namespace Mine
open PySem PySem.W PyProof.Rows

theorem look_put (j k : Nat) (u : LV) : ∀ ρ : Loc, look j (put k u ρ) = if j = k then some u else look j ρ
  | [] => by
    unfold put look
    by_cases h : k = j
    · rw [if_pos h, if_pos h.symm]
    · rw [if_neg h, if_neg (Ne.symm h)]; rfl
  | (i, x) :: r => by
    unfold put
    by_cases h : i = k
    · rw [if_pos h]
      unfold look
      by_cases q : k = j
      · rw [if_pos q, if_pos q.symm]
      · rw [if_neg q, if_neg (Ne.symm q), if_neg (fun z => q (h.symm.trans z))]
    · rw [if_neg h]
      unfold look
      by_cases q : i = j
      · rw [if_pos q, if_pos q, if_neg (fun z => h (q.trans z))]
      · rw [if_neg q, if_neg q, look_put j k u r]

theorem Ws_plain : (Ws.all fun x => !(x == ("__debug__" : Str)) && !(x == ("__classdict__" : Str)) && !(x == (".0" : Str)) && !(x == ("__name__" : Str))) = true := by decide +kernel
theorem Wn_mem {k : Nat} (hk : k < wmax) : Wn k ∈ Ws := by
  have hk' : k < Ws.length := Ws_len ▸ hk
  show Ws.getD k _ ∈ Ws
  rw [List.getD_eq_getElem?_getD, List.getElem?_eq_getElem hk']
  exact List.getElem_mem hk'
theorem Wn_plain {k : Nat} (hk : k < wmax) : ((Wn k) == ("__debug__" : Str)) = false ∧ ((Wn k) == ("__classdict__" : Str)) = false ∧ ((Wn k) == (".0" : Str)) = false ∧ ((Wn k) == ("__name__" : Str)) = false := by
  have := List.all_eq_true.mp Ws_plain _ (Wn_mem hk)
  simp only [Bool.and_eq_true, Bool.not_eq_true'] at this
  exact ⟨this.1.1.1, this.1.1.2, this.1.2, this.2⟩

section
variable (prog : Program) (w : World)
noncomputable def LIs (ad : Ad) (hf : Fz) (h : Heap) (a : Addr) : LV → Value → Prop
  | .val x, v => VRel prog w ad hf x v
  | .own l, v => v = .ref a ∧ ∃ vs n, h.get? a = some { cls := .type "list", data := .seq (List.toArray vs) n } ∧ VRels prog w ad hf l vs
  | .dead, _ => True
noncomputable def VarIs (env : Env) (m : Str → Option Value) (h : Heap) (x : Str) (v : Value) : Prop :=
  (env.kindOf x = some .local → m x = some v) ∧
  (env.kindOf x = some .cell ∨ env.kindOf x = some .free → ∃ c, env.cells.lookup x = some c ∧ h.IsCell c (some v))
structure Fra (hE : Fz) (env : Env) (ρ : Loc) (ad : Ad) (hf : Fz) (h : Heap) (m : Str → Option Value) (oa : Nat → Addr) : Prop where
  kind : env.scope.kind = .function
  glob : env.globals = mainGlobals
  blt : env.builtins = builtinsNs
  ns : h.Ns env.locals m
  vars : ∀ k u, look k ρ = some u → k < wmax → ∃ v, VarIs env m h (Wn k) v ∧ LIs prog w ad hf h (oa k) u v
  cl : ∀ x, env.kindOf x = some .cell ∨ env.kindOf x = some .free → ∃ c v, env.cells.lookup x = some c ∧ h.IsCell c v
  pl : hf env.locals = none ∧ Off ad env.locals
  pc : ∀ x c, env.cells.lookup x = some c → hf c = none ∧ Off ad c ∧ c ≠ env.locals ∧ ∃ v, h.IsCell c v
  cc : ∀ x y c, env.cells.lookup x = some c → env.cells.lookup y = some c → x = y
  po : ∀ k l, look k ρ = some (.own l) → k < wmax → hf (oa k) = none ∧ Off ad (oa k) ∧ oa k ≠ env.locals ∧ (∀ x c, env.cells.lookup x = some c → oa k ≠ c) ∧ hE (oa k) = none
  oo : ∀ j k l l', look j ρ = some (.own l) → look k ρ = some (.own l') → j < wmax → k < wmax → j ≠ k → oa j ≠ oa k
structure FreshE (hE : Fz) (env : Env) : Prop where
  l : hE env.locals = none
  c : env.func.isSome = true → ∀ x c, env.cells.lookup x = some c → hE c = none
end

section
variable {prog : Program} {w : World} {cls : Nat → Addr} {h₀ h h' h'' : Heap} {hE : Fz} {ad ad' ad'' adE : Ad} {hf hf' hf'' hfE : Fz} {σ σ' : Sto} {env : Env} {ρ : Loc} {m : Str → Option Value} {oa : Nat → Addr}

theorem IsCell.at_ {c : Addr} {v : Option Value} (x : h.IsCell c v) (k : ∀ o, h.get? c = some o → h'.get? c = some o) : h'.IsCell c v := let ⟨o, a, b⟩ := x; ⟨o, k _ a, b⟩
theorem Fra.ext (F : Fra prog w hE env ρ ad hf h m oa) (x : Ext ad hf h ad' hf' h') : Fra prog w hE env ρ ad' hf' h' m oa := by
  obtain ⟨oL, esL, epL, hL, _⟩ := id F.ns
  have cellKeep : ∀ c v, (∃ x, env.cells.lookup x = some c) → h.IsCell c v → h'.IsCell c v := fun c v ⟨x', hx⟩ y => IsCell.at_ y fun o e => x.kp c o e (F.pc x' c hx).2.1
  refine ⟨F.kind, F.glob, F.blt, F.ns.at' fun o e => x.kp _ o e F.pl.2, fun k u e hk => ?_, fun y hy => ?_, ⟨x.hn _ _ hL F.pl.2 F.pl.1, x.off hL F.pl.2⟩, fun y c e => ?_, F.cc, fun k l e hk => ?_, F.oo⟩
  · obtain ⟨v, V, L⟩ := F.vars k u e hk
    refine ⟨v, ⟨V.1, fun q => ?_⟩, ?_⟩
    · obtain ⟨c, hc, hv⟩ := V.2 q
      exact ⟨c, hc, cellKeep c _ ⟨_, hc⟩ hv⟩
    · cases u with
      | val a => exact VRel.mono x.pre x.hm L
      | own l =>
        obtain ⟨rfl, vs, n, q, z⟩ := L
        exact ⟨rfl, vs, n, x.kp _ _ q (F.po k l e hk).2.1, VRels.mono x.pre x.hm z⟩
      | dead => trivial
  · obtain ⟨c, v, hc, hv⟩ := F.cl y hy
    exact ⟨c, v, hc, cellKeep c v ⟨y, hc⟩ hv⟩
  · obtain ⟨a, b, d, v, o, ho, hd⟩ := F.pc y c e
    exact ⟨x.hn _ _ ho b a, x.off ho b, d, v, o, x.kp _ _ ho b, hd⟩
  · obtain ⟨a, b, d, f, g⟩ := F.po k l e hk
    obtain ⟨v, V, L⟩ := F.vars k _ e hk
    obtain ⟨rfl, vs, n, q, z⟩ := L
    exact ⟨x.hn _ _ q b a, x.off q b, d, f, g⟩
theorem Fra.same {ρ' : Loc} (F : Fra prog w hE env ρ ad hf h m oa) (e : ∀ k, look k ρ' = look k ρ) : Fra prog w hE env ρ' ad hf h m oa :=
  ⟨F.kind, F.glob, F.blt, F.ns, fun k u q => F.vars k u (e k ▸ q), F.cl, F.pl, F.pc, F.cc, fun k l q => F.po k l (e k ▸ q), fun j k l l' a b => F.oo j k l l' (e j ▸ a) (e k ▸ b)⟩

theorem Sit.touch {b : Addr} (S : Sit prog w cls h₀ ad hf σ h) (hs : Heap.SameBut b h h') (hn : hf b = none) (off : Off ad b) : Sit prog w cls h₀ ad hf σ h' := by
  refine ⟨S.base, fun a o e => (hs.2 a (fun z => by rw [z, hn] at e; cases e)).trans (S.fro a o e), S.len, fun i p o e q => ?_, S.pr, S.dj⟩
  have hp := off p (List.mem_of_getElem? e)
  have H := S.ob i p o e q
  cases o with
  | inst c fs => obtain ⟨x, l, es, n, b1, c1, d⟩ := H; exact ⟨x, l, es, n, (hs.2 _ (Ne.symm hp.1)).trans b1, (hs.2 _ (Ne.symm hp.2)).trans c1, d⟩
  | mlst l => obtain ⟨x, vs, n, b1, c1⟩ := H; exact ⟨x, vs, n, (hs.2 _ (Ne.symm hp.1)).trans b1, c1⟩
theorem ExtF.touch {b : Addr} (x : ExtF adE hfE hE ad hf h) (hs : Heap.SameBut b h h') (he : hE b = none) : ExtF adE hfE hE ad hf h' := by
  have ne : ∀ a o, hE a = some o → a ≠ b := fun a o e z => by rw [z, he] at e; cases e
  exact ⟨x.hm, x.hn, x.ap, fun a o e f => (hs.2 a (ne a o e)).trans (x.kp a o e f), fun a o e => let ⟨o', e'⟩ := x.ke a o e; ⟨o', (hs.2 a (ne a o e)).trans e'⟩⟩

/-- what must hold of the slot that a variable takes -/
structure Slot' (hE : Fz) (env : Env) (ρ : Loc) (ad : Ad) (hf : Fz) (oa : Nat → Addr) (k : Nat) (a : Addr) : Prop where
  p : hf a = none ∧ Off ad a ∧ a ≠ env.locals ∧ (∀ x c, env.cells.lookup x = some c → a ≠ c) ∧ hE a = none
  o : ∀ j l, look j ρ = some (.own l) → j < wmax → j ≠ k → oa j ≠ a
noncomputable def oput (oa : Nat → Addr) (k : Nat) (a : Addr) : Nat → Addr := fun j => if j = k then a else oa j
theorem oput_same {k : Nat} {a : Addr} : oput oa k a k = a := if_pos rfl
theorem oput_ne {j k : Nat} {a : Addr} (h : j ≠ k) : oput oa k a j = oa j := if_neg h

theorem Fra.putL {k : Nat} {u : LV} {v : Value} {a : Addr} (F : Fra prog w hE env ρ ad hf h m oa) (hs : Heap.SameBut env.locals h h') (hn : h'.Ns env.locals (fun x => if x = Wn k then some v else m x)) (hk : k < wmax)
    (hl : env.kindOf (Wn k) = some .local) (L : LIs prog w ad hf h a u v) (O : ∀ l, u = .own l → Slot' hE env ρ ad hf oa k a) :
    Fra prog w hE env (put k u ρ) ad hf h' (fun x => if x = Wn k then some v else m x) (oput oa k a) := by
  have own_ne : ∀ j l, look j (put k u ρ) = some (.own l) → j < wmax → oput oa k a j ≠ env.locals := fun j l e hj => by
    rw [look_put] at e
    by_cases q : j = k
    · subst q; rw [if_pos rfl] at e; rw [oput_same]; exact (O l (Option.some.inj e)).p.2.2.1
    · rw [if_neg q] at e; rw [oput_ne q]; exact (F.po j l e hj).2.2.1
  refine ⟨F.kind, F.glob, F.blt, hn, fun j u' e hj => ?_, fun y hy => ?_, F.pl, fun y c e => ?_, F.cc, fun j l e hj => ?_, fun i j l l' e e' hi hj ne => ?_⟩
  · rw [look_put] at e
    by_cases q : j = k
    · subst q
      rw [if_pos rfl] at e; cases e
      refine ⟨v, ⟨fun _ => if_pos rfl, fun z => ?_⟩, ?_⟩
      · rw [hl] at z; rcases z with z | z <;> cases z
      · rw [oput_same]
        cases u with
        | val x => exact L
        | own l => obtain ⟨e1, vs, n, q1, z⟩ := L; exact ⟨e1, vs, n, (hs.2 _ (O l rfl).p.2.2.1).trans q1, z⟩
        | dead => trivial
    · rw [if_neg q] at e
      obtain ⟨v', V, L'⟩ := F.vars j u' e hj
      have nm : Wn j ≠ Wn k := fun z => q (Wn_inj hj hk z)
      refine ⟨v', ⟨fun z => (if_neg nm).trans (V.1 z), fun z => ?_⟩, ?_⟩
      · obtain ⟨c, hc, hv⟩ := V.2 z
        exact ⟨c, hc, hv.sameBut hs (F.pc _ c hc).2.2.1⟩
      · rw [oput_ne q]
        cases u' with
        | val x => exact L'
        | own l => obtain ⟨e1, vs, n, q1, z⟩ := L'; exact ⟨e1, vs, n, (hs.2 _ (F.po j l e hj).2.2.1).trans q1, z⟩
        | dead => trivial
  · obtain ⟨c, v', hc, hv⟩ := F.cl y hy
    exact ⟨c, v', hc, hv.sameBut hs (F.pc _ c hc).2.2.1⟩
  · obtain ⟨a1, b, d, v', z⟩ := F.pc y c e
    exact ⟨a1, b, d, v', z.sameBut hs d⟩
  · rw [look_put] at e
    by_cases q : j = k
    · subst q; rw [if_pos rfl] at e; rw [oput_same]; exact (O l (Option.some.inj e)).p
    · rw [if_neg q] at e; rw [oput_ne q]; exact F.po j l e hj
  · rw [look_put] at e e'
    by_cases q : i = k
    · subst q
      rw [if_neg (Ne.symm ne)] at e'; rw [if_pos rfl] at e
      rw [oput_same, oput_ne (Ne.symm ne)]
      exact Ne.symm ((O l (Option.some.inj e)).o j l' e' hj (Ne.symm ne))
    · rw [if_neg q] at e
      rw [oput_ne q]
      by_cases q' : j = k
      · subst q'
        rw [if_pos rfl] at e'
        rw [oput_same]
        exact (O l' (Option.some.inj e')).o i l e hi q
      · rw [if_neg q'] at e'
        rw [oput_ne q']
        exact F.oo i j l l' e e' hi hj ne

theorem Fra.putC {k : Nat} {u : LV} {v : Value} {a c : Addr} (F : Fra prog w hE env ρ ad hf h m oa) (hs : Heap.SameBut c h h') (hc : env.cells.lookup (Wn k) = some c) (hv : h'.IsCell c (some v)) (hk : k < wmax)
    (hl : env.kindOf (Wn k) = some .cell) (L : LIs prog w ad hf h a u v) (O : ∀ l, u = .own l → Slot' hE env ρ ad hf oa k a) :
    Fra prog w hE env (put k u ρ) ad hf h' m (oput oa k a) := by
  have cL := (F.pc _ c hc).2.2.1
  have other : ∀ y d x, env.cells.lookup y = some d → y ≠ Wn k → h.IsCell d x → h'.IsCell d x := fun y d x e ne z => z.sameBut hs fun q => ne (F.cc y (Wn k) c (q ▸ e) hc)
  refine ⟨F.kind, F.glob, F.blt, F.ns.sameBut hs (Ne.symm cL), fun j u' e hj => ?_, fun y hy => ?_, F.pl, fun y d e => ?_, F.cc, fun j l e hj => ?_, fun i j l l' e e' hi hj ne => ?_⟩
  · rw [look_put] at e
    by_cases q : j = k
    · subst q
      rw [if_pos rfl] at e; cases e
      refine ⟨v, ⟨fun z => ?_, fun _ => ⟨c, hc, hv⟩⟩, ?_⟩
      · rw [hl] at z; cases z
      · rw [oput_same]
        cases u with
        | val x => exact L
        | own l => obtain ⟨e1, vs, n, q1, z⟩ := L; exact ⟨e1, vs, n, (hs.2 _ ((O l rfl).p.2.2.2.1 _ c hc)).trans q1, z⟩
        | dead => trivial
    · rw [if_neg q] at e
      obtain ⟨v', V, L'⟩ := F.vars j u' e hj
      have nm : Wn j ≠ Wn k := fun z => q (Wn_inj hj hk z)
      refine ⟨v', ⟨V.1, fun z => ?_⟩, ?_⟩
      · obtain ⟨d, hd, hv'⟩ := V.2 z
        exact ⟨d, hd, other _ d _ hd nm hv'⟩
      · rw [oput_ne q]
        cases u' with
        | val x => exact L'
        | own l => obtain ⟨e1, vs, n, q1, z⟩ := L'; exact ⟨e1, vs, n, (hs.2 _ ((F.po j l e hj).2.2.2.1 _ c hc)).trans q1, z⟩
        | dead => trivial
  · by_cases q : y = Wn k
    · subst q; exact ⟨c, _, hc, hv⟩
    · obtain ⟨d, v', hd, hv'⟩ := F.cl y hy
      exact ⟨d, v', hd, other y d _ hd q hv'⟩
  · obtain ⟨a1, b, d1, v', z⟩ := F.pc y d e
    by_cases q : y = Wn k
    · subst q
      have : d = c := Option.some.inj (e.symm.trans hc)
      subst this
      exact ⟨a1, b, d1, _, hv⟩
    · exact ⟨a1, b, d1, v', other y d _ e q z⟩
  · rw [look_put] at e
    by_cases q : j = k
    · subst q; rw [if_pos rfl] at e; rw [oput_same]; exact (O l (Option.some.inj e)).p
    · rw [if_neg q] at e; rw [oput_ne q]; exact F.po j l e hj
  · rw [look_put] at e e'
    by_cases q : i = k
    · subst q
      rw [if_neg (Ne.symm ne)] at e'; rw [if_pos rfl] at e
      rw [oput_same, oput_ne (Ne.symm ne)]
      exact Ne.symm ((O l (Option.some.inj e)).o j l' e' hj (Ne.symm ne))
    · rw [if_neg q] at e
      rw [oput_ne q]
      by_cases q' : j = k
      · subst q'
        rw [if_pos rfl] at e'
        rw [oput_same]
        exact (O l' (Option.some.inj e')).o i l e hi q
      · rw [if_neg q'] at e'
        rw [oput_ne q']
        exact F.oo i j l l' e e' hi hj ne
end

section
variable {prog : Program} {w : World} {cls : Nat → Addr} {h₀ : Heap} {hE : Fz} {ad adE : Ad} {hf hfE : Fz} {σ : Sto} {env : Env} {ρ : Loc} {m : Str → Option Value} {oa : Nat → Addr} {M : Model} {A : Around} {E : Value → Shared → Prop} {s : Shared}
theorem name_var {k : Nat} {u : LV} {pos : Pos} {Q : Value → Shared → Prop} (F : Fra prog w hE env ρ ad hf s.heap m oa) (e : look k ρ = some u) (hk : k < wmax)
    (hl : env.kindOf (Wn k) = some .local ∨ env.kindOf (Wn k) = some .cell ∨ env.kindOf (Wn k) = some .free) (h : ∀ v, LIs prog w ad hf s.heap (oa k) u v → Q v s) : wpAny M A (eval (.Name (Wn k) pos) env) Q E s := by
  obtain ⟨v, V, L⟩ := F.vars k u e hk
  have P := Wn_plain hk
  refine wpAny_Name ?_ P.1
  rcases hl with hl | hl | hl
  · exact wpAny_loadName_local F.kind hl F.ns (V.1 hl) (h v L)
  · obtain ⟨c, hc, hv⟩ := V.2 (.inl hl)
    exact wpAny_loadName_cell F.kind hl hc hv (h v L)
  · obtain ⟨c, hc, hv⟩ := V.2 (.inr hl)
    exact wpAny_loadName_free F.kind hl hc hv (h v L) P.2.1
theorem store_var {k : Nat} {u : LV} {v : Value} {a : Addr} {Q : Unit → Shared → Prop} (S : Sit prog w cls h₀ ad hf σ s.heap) (F : Fra prog w hE env ρ ad hf s.heap m oa) (X : ExtF adE hfE hE ad hf s.heap) (fr : FreshE hE env) (hk : k < wmax)
    (hl : env.kindOf (Wn k) = some .local ∨ (env.func.isSome = true ∧ env.kindOf (Wn k) = some .cell)) (L : LIs prog w ad hf s.heap a u v) (O : ∀ l, u = .own l → Slot' hE env ρ ad hf oa k a)
    (h : ∀ h' tk m', Sit prog w cls h₀ ad hf σ h' → Fra prog w hE env (put k u ρ) ad hf h' m' (oput oa k a) → ExtF adE hfE hE ad hf h' → Q () { s with heap := h', toks := tk }) : wpAny M A (storeName env (Wn k) v) Q E s := by
  rcases hl with hl | hl
  · refine wpAny_storeName_local hl F.ns (fun h' hn hs => h h' _ _ (S.touch hs F.pl.1 F.pl.2) (F.putL hs hn hk hl L O) (X.touch hs fr.l)) ?_
    rw [F.kind]; rfl
  · obtain ⟨ho, hl⟩ := hl
    obtain ⟨c, v₀, hc, hv⟩ := F.cl _ (.inl hl)
    have P := F.pc _ c hc
    exact wpAny_storeName_cell F.kind hl hc hv fun h' hv' hs => h h' s.toks _ (S.touch hs P.1 P.2.1) (F.putC hs hc hv' hk hl L O) (X.touch hs (fr.c ho _ c hc))
end
end Mine
/-! part ME -/
namespace Mine
open PySem PySem.W PyProof.Rows

noncomputable def Room (A : Around) (n : Nat) : Prop := A.handled = none ∧ A.depth + 4 * (n + 1) < recursionLimit ∧ A.units + 16 * (n + 1) < cLine
theorem Room.le {A : Around} {m n : Nat} (h : Room A n) (q : m ≤ n) : Room A m := ⟨h.1, by have := h.2.1; omega, by have := h.2.2; omega⟩
theorem Room.u {A : Around} {n : Nat} (h : Room A n) : A.units + 10 < cLine := by have := h.2.2; omega

noncomputable def opB : BO → Operator
  | .add => .Add | .sub => .Sub | .mul => .Mult | .mod => .Mod | .fdiv => .FloorDiv | .band => .BitAnd | .bor => .BitOr | .shl => .LShift
noncomputable def opC : CO → CmpOp
  | .eq => .Eq | .ne => .NotEq | .lt => .Lt | .gt => .Gt | .ge => .GtE

noncomputable abbrev PureQ (prog : Program) (w : World) (ad : Ad) (hf : Fz) (s : Shared) (r : AV) (Q : Value → Shared → Prop) : Prop :=
  ∀ v' h' tk, Grow s.heap h' → VRel prog w ad hf r v' → Q v' { s with heap := h', toks := tk }

section
variable {prog : Program} {w : World} {cls : Nat → Addr} {h₀ : Heap} {ad : Ad} {hf : Fz} {σ : Sto} {A : Around} {E : Value → Shared → Prop} {s : Shared} {Q : Value → Shared → Prop}
theorem PureQ.now {r : AV} {v : Value} (h : PureQ prog w ad hf s r Q) (x : VRel prog w ad hf r v) (tk : Nat) : Q v { s with toks := tk } := h v s.heap tk (Grow.refl _) x
theorem PureQ.now' {r : AV} {v : Value} (h : PureQ prog w ad hf s r Q) (x : VRel prog w ad hf r v) : Q v s := h v s.heap s.toks (Grow.refl _) x

theorem small_lt {a : Int} (h : small a = true) : a.natAbs < 2 ^ 40 := by
  unfold small at h
  obtain ⟨h1, h2⟩ := Bool.and_eq_true_iff.mp h
  have h1 : -1000000000000 < a := of_decide_eq_true h1
  have h2 : a < 1000000000000 := of_decide_eq_true h2
  omega
theorem prim_bin {o : BO} {a b r : AV} {u v : Value} (e : binV o a b = some r) (ha : VRel prog w ad hf a u) (hb : VRel prog w ad hf b v) (h : PureQ prog w ad hf s r Q) :
    wpAny (model prog w) A (binaryOp (opB o) u v) Q E s := by
  unfold binV at e
  split at e
  · rename_i i j
    rw [VRel] at ha hb
    obtain ⟨t, rfl⟩ := ha
    obtain ⟨t', rfl⟩ := hb
    obtain ⟨k, hk, rfl⟩ := Option.map_eq_some_iff.mp e
    have fin : ∀ x, x = k → Q (.int x s.toks) { s with toks := s.toks + 1 } := fun x hx => h.now (by rw [VRel]; exact ⟨_, by rw [hx]⟩) _
    cases o with
    | add => cases hk; exact add_int (fin _ rfl)
    | sub => cases hk; exact sub_int (fin _ rfl)
    | mul =>
      simp only [binI] at hk
      split at hk
      · rename_i q
        have q1 := small_lt (Bool.and_eq_true_iff.mp q).1
        cases hk
        exact PySem.P.mul_int (fin _ rfl) (IntMulOk.of_left (intBits_le_64 (by omega) (by omega)))
      · cases hk
    | mod =>
      simp only [binI] at hk
      split at hk
      · rename_i q
        cases hk
        simp only [Bool.and_eq_true, decide_eq_true_eq] at q
        exact mod_int' (by omega) (fin _ rfl)
      · cases hk
    | fdiv =>
      simp only [binI] at hk
      split at hk
      · rename_i q
        cases hk
        simp only [Bool.and_eq_true, decide_eq_true_eq] at q
        have q1 := small_lt q.2
        refine floordiv_int (by omega) (fin _ rfl) (.inl (PyProof.noPylong_of_log2 ?_))
        by_cases z : j.natAbs = 0
        · rw [z]; decide
        · have := (Nat.log2_lt z).mpr (Nat.lt_trans q1 (show 2 ^ 40 < 2 ^ 41 by decide)); omega
      · cases hk
    | band => cases hk; exact and_int (fin _ rfl)
    | bor => cases hk; exact or_int (fin _ rfl)
    | shl =>
      simp only [binI] at hk
      split at hk
      · rename_i q
        cases hk
        simp only [Bool.and_eq_true, decide_eq_true_eq] at q
        have q1 := small_lt q.2
        exact lshift_int_small (by omega) (by omega) (by omega) (fin _ rfl)
      · cases hk
  · cases e

theorem prim_eqS {a b : AV} {r : Bool} {u v : Value} (e : eqS a b = some r) (ha : VRel prog w ad hf a u) (hb : VRel prog w ad hf b v) :
    (∃ i j t t', u = .int i t ∧ v = .int j t' ∧ r = (i == j)) ∨ (∃ x y t t', u = .str x t ∧ v = .str y t' ∧ r = (x == y)) := by
  unfold eqS at e
  split at e
  · rw [VRel] at ha hb
    obtain ⟨t, rfl⟩ := ha
    obtain ⟨t', rfl⟩ := hb
    cases e
    exact .inl ⟨_, _, _, _, rfl, rfl, by rw [Bool.eq_iff_iff]; simp⟩
  · rw [VRel] at ha hb
    rename_i j k
    obtain ⟨hj, t, rfl⟩ := ha
    obtain ⟨hk, t', rfl⟩ := hb
    cases e
    refine .inr ⟨_, _, _, _, rfl, rfl, ?_⟩
    rw [Bool.eq_iff_iff]
    simp only [decide_eq_true_eq, beq_iff_eq]
    exact ⟨fun z => by rw [z], fun z => Wn_inj hj hk z⟩
  · cases e
theorem eqAt_S {a b : AV} {r : Bool} {u v : Value} (e : eqS a b = some r) (ha : VRel prog w ad hf a u) (hb : VRel prog w ad hf b v) (A : Around) (s : Shared) : SeqAt.EqAt A s u v r := by
  rcases prim_eqS e ha hb with ⟨i, j, t, t', rfl, rfl, rfl⟩ | ⟨x, y, t, t', rfl, rfl, rfl⟩
  · exact (MeetsSeq.EqGives.int i j t t').at A s
  · exact (eqGives_str x y t t').at A s

theorem hfTup (S : Sit prog w cls h₀ ad hf σ s.heap) {l : List AV} {v : Value} (x : VRel prog w ad hf (.tup l) v) : ∃ a vs, v = .ref a ∧ s.heap.IsTuple a (List.toArray vs) ∧ VRels prog w ad hf l vs := by
  rw [VRel] at x
  obtain ⟨a, vs, n, rfl, e, r⟩ := x
  exact ⟨a, vs, rfl, ⟨_, S.fro a _ e, rfl, n, rfl⟩, r⟩
theorem hfLst (S : Sit prog w cls h₀ ad hf σ s.heap) {l : List AV} {v : Value} (x : VRel prog w ad hf (.lst l) v) : ∃ a vs, v = .ref a ∧ s.heap.PlainList a (List.toArray vs) ∧ VRels prog w ad hf l vs := by
  rw [VRel] at x
  obtain ⟨a, vs, n, rfl, e, r⟩ := x
  exact ⟨a, vs, rfl, ⟨n, S.fro a _ e⟩, r⟩
theorem isTup_of {h : Heap} {a : Addr} {vs : Array Value} (x : h.IsTuple a vs) : IsTup h a vs := x

theorem eqL_at : ∀ {l m : List AV} {r : Bool} {vs us : List Value}, eqL l m = some r → VRels prog w ad hf l vs → VRels prog w ad hf m us →
    vs.length = us.length ∧ ∃ e : Nat → Bool, (∀ A s j (h1 : j < vs.length) (h2 : j < us.length), SeqAt.EqAt A s vs[j] us[j] (e j)) ∧ (List.range vs.length).all e = r
  | [], [], r, vs, us, e, x, y => by
    rw [VRels] at x y; subst x y
    cases e
    exact ⟨rfl, fun _ => true, fun _ _ j h => absurd h (Nat.not_lt_zero _), rfl⟩
  | a :: l, b :: m, r, vs, us, e, x, y => by
    rw [VRels] at x y
    obtain ⟨v, q, rfl, h1, h2⟩ := x
    obtain ⟨u, p, rfl, h3, h4⟩ := y
    obtain ⟨k, hk, e⟩ := Option.bind_eq_some_iff.mp e
    obtain ⟨k', hk', rfl⟩ := Option.map_eq_some_iff.mp e
    obtain ⟨hl, f, hf', hr⟩ := eqL_at hk' h2 h4
    refine ⟨congrArg (· + 1) hl, fun j => match j with | 0 => k | j + 1 => f j, fun A s j h1' h2' => ?_, ?_⟩
    · cases j with
      | zero => exact eqAt_S hk h1 h3 A s
      | succ j => exact hf' A s j (Nat.lt_of_succ_lt_succ h1') (Nat.lt_of_succ_lt_succ h2')
    · rw [List.length_cons, List.range_succ_eq_map, List.all_cons, List.all_map]
      rw [← hr]; rfl
  | [], _ :: _, _, _, _, e, _, _ => by cases e
  | _ :: _, [], _, _, _, e, _, _ => by cases e

theorem eqV_cases {a b : AV} {r : Bool} (e : eqV a b = some r) : (∃ l, a = .tup l ∧ b = .tup [] ∧ r = l.isEmpty) ∨ (∃ l m, a = .tup l ∧ b = .tup m ∧ eqL l m = some r) ∨ eqS a b = some r := by
  unfold eqV at e
  split at e
  · rename_i l; cases e; exact .inl ⟨l, rfl, rfl, rfl⟩
  · rename_i l m _; exact .inr (.inl ⟨l, m, rfl, rfl, e⟩)
  · exact .inr (.inr e)
theorem prim_cmp {o : CO} {a b : AV} {r : Bool} {u v : Value} (S : Sit prog w cls h₀ ad hf σ s.heap) (hu : A.units < cLine) (e : cmpV o a b = some r) (ha : VRel prog w ad hf a u) (hb : VRel prog w ad hf b v) (h : Q (.bool r) s) :
    wpAny (model prog w) A (compareOp (opC o) u v) Q E s := by
  have ii : ∀ {i j : Int} {u v : Value}, VRel prog w ad hf (.int i) u → VRel prog w ad hf (.int j) v → ∃ t t', u = .int i t ∧ v = .int j t' := fun x y => by
    rw [VRel] at x y
    obtain ⟨t, rfl⟩ := x
    obtain ⟨t', rfl⟩ := y
    exact ⟨t, t', rfl, rfl⟩
  unfold cmpV at e
  split at e
  · rcases eqV_cases e with ⟨l, rfl, rfl, rfl⟩ | ⟨l, m, rfl, rfl, e'⟩ | e'
    · obtain ⟨x, vs, rfl, T, R⟩ := hfTup S ha
      obtain ⟨y, us, rfl, T', R'⟩ := hfTup S hb
      rw [VRels] at R'; subst R'
      refine SeqAt.eq_tupleAt (e := fun _ => true) T T' hu (fun j _ h2 => absurd h2 (Nat.not_lt_zero _)) ?_
      have hl := R.length
      cases l with
      | nil => rw [VRels] at R; subst R; exact h
      | cons a l =>
        rw [VRels] at R
        obtain ⟨v, q, rfl, _⟩ := R
        simpa using h
    · obtain ⟨x, vs, rfl, T, R⟩ := hfTup S ha
      obtain ⟨y, us, rfl, T', R'⟩ := hfTup S hb
      obtain ⟨hl, f, hE, hr⟩ := eqL_at e' R R'
      refine SeqAt.eq_tupleAt (e := f) T T' hu (fun j h1 h2 => ?_) ?_
      · have h1' : j < vs.length := by simpa using h1
        have h2' : j < us.length := by simpa using h2
        have := hE A.in1 s j h1' h2'
        simpa using this
      · have e1 : (vs.toArray.size == us.toArray.size) = true := by simp [hl]
        have e2 : min vs.toArray.size us.toArray.size = vs.length := by simp [hl]
        rw [e1, e2, Bool.and_true, hr]; exact h
    · rcases prim_eqS e' ha hb with ⟨i, j, t, t', rfl, rfl, rfl⟩ | ⟨x, y, t, t', rfl, rfl, rfl⟩
      · exact eq_int h
      · exact eq_str h
  · obtain ⟨q, hq, rfl⟩ := Option.map_eq_some_iff.mp e
    rcases prim_eqS hq ha hb with ⟨i, j, t, t', rfl, rfl, rfl⟩ | ⟨x, y, t, t', rfl, rfl, rfl⟩
    · exact ne_int h
    · exact ne_str h
  · obtain ⟨t, t', rfl, rfl⟩ := ii ha hb; cases e; exact lt_int h
  · obtain ⟨t, t', rfl, rfl⟩ := ii ha hb; cases e; exact gt_int h
  · obtain ⟨t, t', rfl, rfl⟩ := ii ha hb; cases e; exact ge_int h
  · cases e
end
end Mine
/-! part MF -/
namespace Mine
open PySem PySem.W PyProof.Rows

section
variable {prog : Program} {w : World} {cls : Nat → Addr} {h₀ : Heap} {ad : Ad} {hf : Fz} {σ : Sto} {A : Around} {E : Value → Shared → Prop} {s : Shared} {Q : Value → Shared → Prop}

/-! membership -/
noncomputable def eqTo (v : Value) (y : Value) : Bool := match v with
  | .int k _ => isInt k y
  | .str k _ => isStrOf k y
  | _ => false
theorem isinL_at {x : AV} {v : Value} (hx : VRel prog w ad hf x v) : ∀ {l : List AV} {vs : List Value} {r : Bool}, isinL x l = some r → VRels prog w ad hf l vs →
    (∀ A s y, y ∈ vs → SeqAt.EqAt A s y v (eqTo v y)) ∧ vs.any (eqTo v) = r
  | [], vs, r, e, y => by rw [VRels] at y; subst y; cases e; exact ⟨fun _ _ _ hy => (nomatch hy), rfl⟩
  | a :: l, vs, r, e, y => by
    rw [VRels] at y
    obtain ⟨u, q, rfl, h1, h2⟩ := y
    obtain ⟨k, hk, e⟩ := Option.bind_eq_some_iff.mp e
    obtain ⟨k', hk', rfl⟩ := Option.map_eq_some_iff.mp e
    obtain ⟨i1, i2⟩ := isinL_at hx hk' h2
    have key : eqTo v u = k := by
      rcases prim_eqS hk h1 hx with ⟨i, j, t, t', rfl, rfl, rfl⟩ | ⟨i, j, t, t', rfl, rfl, rfl⟩ <;> rfl
    refine ⟨fun A s y hy => ?_, ?_⟩
    · rcases List.mem_cons.mp hy with rfl | hy
      · rw [key]; exact eqAt_S hk h1 hx A s
      · exact i1 A s y hy
    · rw [List.any_cons, i2, key]
noncomputable def OptRel (prog : Program) (w : World) (ad : Ad) (hf : Fz) : Option AV → Option Value → Prop
  | none, x => x = none
  | some b, x => ∃ u, x = some u ∧ VRel prog w ad hf b u
theorem keyI_at {i : Int} : ∀ {ns : List Int} {us : List AV} {vs : List Value} {r : Option AV}, keyOf (ns.map AV.int) us (.int i) = some r → VRels prog w ad hf us vs → OptRel prog w ad hf r (valueAt (ns.zip vs) i)
  | [], us, vs, r, e, hv => by
    cases us with
    | nil => cases e; rfl
    | cons _ _ => cases e
  | n :: ns, us, vs, r, e, hv => by
    cases us with
    | nil => cases e
    | cons b us =>
      rw [VRels] at hv
      obtain ⟨u, q, rfl, h1, h2⟩ := hv
      obtain ⟨k, hk, e⟩ := Option.bind_eq_some_iff.mp e
      cases hk
      rw [List.zip_cons_cons]
      by_cases z : n = i
      · rw [if_pos (decide_eq_true z)] at e
        cases e
        exact ⟨u, by simp [valueAt, z], h1⟩
      · rw [if_neg (by simpa using z)] at e
        have e2 : valueAt ((n, u) :: ns.zip q) i = valueAt (ns.zip q) i := by simp [valueAt, z]
        rw [e2]; exact keyI_at e h2
theorem keyS_at {i : Nat} (hi : i < wmax) : ∀ {ns : List Nat} {us : List AV} {vs : List Value} {r : Option AV}, (∀ k ∈ ns, k < wmax) → keyOf (ns.map AV.str) us (.str i) = some r → VRels prog w ad hf us vs → OptRel prog w ad hf r (valueAt ((ns.map Wn).zip vs) (Wn i))
  | [], us, vs, r, _, e, hv => by
    cases us with
    | nil => cases e; rfl
    | cons _ _ => cases e
  | n :: ns, us, vs, r, hw, e, hv => by
    cases us with
    | nil => cases e
    | cons b us =>
      rw [VRels] at hv
      obtain ⟨u, q, rfl, h1, h2⟩ := hv
      obtain ⟨k, hk, e⟩ := Option.bind_eq_some_iff.mp e
      cases hk
      rw [List.map_cons, List.zip_cons_cons]
      by_cases z : n = i
      · rw [if_pos (decide_eq_true z)] at e
        cases e
        exact ⟨u, by simp [valueAt, z], h1⟩
      · rw [if_neg (by simpa using z)] at e
        have zz : Wn n ≠ Wn i := fun q => z (Wn_inj (hw n List.mem_cons_self) hi q)
        have e2 : valueAt ((Wn n, u) :: (ns.map Wn).zip q) (Wn i) = valueAt ((ns.map Wn).zip q) (Wn i) := by simp [valueAt, zz]
        rw [e2]; exact keyS_at hi (fun k hk => hw k (List.mem_cons_of_mem _ hk)) e h2
noncomputable abbrev DKeys (prog : Program) (w : World) (ks : List AV) (vs : List Value) (o : Obj) : Prop :=
  (∃ ns : List Int, ks = ns.map AV.int ∧ ns.length = vs.length ∧ o.IsDictOf (intKind prog w) (ns.zip vs)) ∨ (∃ ns : List Nat, ks = ns.map AV.str ∧ ns.length = vs.length ∧ (∀ k ∈ ns, k < wmax) ∧ o.IsDictOf (strKind prog w) ((ns.map Wn).zip vs))
theorem keyOf_at {x : AV} {v : Value} (hx : VRel prog w ad hf x v) {ks us : List AV} {r : Option AV} {vs : List Value} {o : Obj} (e : keyOf ks us x = some r) (hv : VRels prog w ad hf us vs) (hne : ks ≠ []) (d : DKeys prog w ks vs o) :
    (∃ (i : Int) (t : Tok) (kvs : List (Int × Value)), v = .int i t ∧ o.IsDictOf (intKind prog w) kvs ∧ OptRel prog w ad hf r (valueAt kvs i)) ∨
    (∃ (i : Str) (t : Tok) (kvs : List (Str × Value)), v = .str i t ∧ o.IsDictOf (strKind prog w) kvs ∧ OptRel prog w ad hf r (valueAt kvs i)) := by
  rcases d with ⟨ns, rfl, hl, D⟩ | ⟨ns, rfl, hl, hw, D⟩
  · cases x with
    | int i =>
      rw [VRel] at hx
      obtain ⟨t, rfl⟩ := hx
      exact .inl ⟨i, t, _, rfl, D, keyI_at e hv⟩
    | _ =>
      cases ns with
      | nil => exact absurd rfl hne
      | cons n ns => cases us with
        | nil => cases e
        | cons b us => cases e
  · cases x with
    | str i =>
      rw [VRel] at hx
      obtain ⟨hi, t, rfl⟩ := hx
      exact .inr ⟨_, t, _, rfl, D, keyS_at hi hw e hv⟩
    | _ =>
      cases ns with
      | nil => exact absurd rfl hne
      | cons n ns => cases us with
        | nil => cases e
        | cons b us => cases e
theorem hfDct (S : Sit prog w cls h₀ ad hf σ s.heap) {ks us : List AV} {v : Value} (x : VRel prog w ad hf (.dct ks us) v) : ∃ a o vs, v = .ref a ∧ s.heap.get? a = some o ∧ ((a == sysModules) = false ∧ ks ≠ []) ∧ VRels prog w ad hf us vs ∧ DKeys prog w ks vs o := by
  rw [VRel] at x
  obtain ⟨a, o, vs, rfl, e, c, r, d⟩ := x
  exact ⟨a, o, vs, rfl, S.fro a o e, c, r, d⟩
theorem OptRel.isSome {r : Option AV} {x : Option Value} (m : OptRel prog w ad hf r x) : x.isSome = r.isSome := by
  cases r with
  | none => rw [show x = none from m]; rfl
  | some b => obtain ⟨u, rfl, _⟩ := m; rfl
theorem prim_in {neg : Bool} {a c : AV} {r : Bool} {u v : Value} (S : Sit prog w cls h₀ ad hf σ s.heap) (e : isinV a c = some r) (ha : VRel prog w ad hf a u) (hc : VRel prog w ad hf c v)
    (h : ∀ tk, Q (.bool (r ^^ neg)) { s with toks := tk }) : wpAny (model prog w) A (compareOp (if neg then .NotIn else .In) u v) Q E s := by
  unfold isinV at e
  split at e
  · obtain ⟨x, vs, rfl, T, R⟩ := hfTup S hc
    obtain ⟨hE, rfl⟩ := isinL_at ha e R
    cases neg with
    | false => exact SeqAt.in_tupleAt _ T (fun y hy => hE A.in1 s y (by simpa using hy)) (by have := h s.toks; simpa using this)
    | true => exact SeqAt.notIn_tupleAt _ T (fun y hy => hE A.in1 s y (by simpa using hy)) (by have := h s.toks; simpa using this)
  · obtain ⟨x, vs, rfl, T, R⟩ := hfLst S hc
    obtain ⟨hE, rfl⟩ := isinL_at ha e R
    cases neg with
    | false => exact SeqAt.in_listAt _ T.isList (fun y hy => hE A.in1 s y (by simpa using hy)) (by have := h s.toks; simpa using this)
    | true => exact SeqAt.notIn_listAt _ T.isList (fun y hy => hE A.in1 s y (by simpa using hy)) (by have := h s.toks; simpa using this)
  · rename_i ks us
    obtain ⟨x, o, vs, rfl, T, hs, R, d⟩ := hfDct S hc
    obtain ⟨k, hk, rfl⟩ := Option.map_eq_some_iff.mp e
    rcases keyOf_at ha hk R hs.2 d with ⟨i, t, kvs, rfl, D, m⟩ | ⟨i, t, kvs, rfl, D, m⟩
    · have M := (Heap.dictOf_iff.mpr ⟨o, T, D⟩).mapOf
      cases neg with
      | false => exact wpAny_in_of (intKind_is prog w i t) hs.1 M (by rw [m.isSome]; have := h (s.toks + 1); simpa using this)
      | true => exact wpAny_notIn_of (intKind_is prog w i t) hs.1 M (by rw [m.isSome]; have := h (s.toks + 1); simpa using this)
    · have M := (Heap.dictOf_iff.mpr ⟨o, T, D⟩).mapOf
      cases neg with
      | false => exact wpAny_in_of (strKind_is prog w i t) hs.1 M (by rw [m.isSome]; have := h (s.toks + 1); simpa using this)
      | true => exact wpAny_notIn_of (strKind_is prog w i t) hs.1 M (by rw [m.isSome]; have := h (s.toks + 1); simpa using this)
  · cases e
end
end Mine
/-! part MG -/
namespace Mine
open PySem PySem.W PyProof.Rows

section
variable {prog : Program} {w : World} {cls : Nat → Addr} {h₀ : Heap} {ad : Ad} {hf : Fz} {σ : Sto} {A : Around} {E : Value → Shared → Prop} {s : Shared} {Q : Value → Shared → Prop}

theorem fits_len {l : List AV} (h : fits l = true) : l.length ≤ 1000000 := of_decide_eq_true h
theorem atI_cases {l : List AV} {i : Int} {r : AV} (e : atI l i = some r) : l.length ≤ 1000000 ∧ ((0 ≤ i ∧ i < l.length ∧ l[i.toNat]? = some r) ∨ (i < 0 ∧ -(l.length : Int) ≤ i ∧ l[(i + l.length).toNat]? = some r)) := by
  unfold atI at e
  split at e
  · rename_i hfit
    refine ⟨fits_len hfit, ?_⟩
    split at e
    · rename_i h
      have := (List.getElem?_eq_some_iff.mp e).1
      exact .inl ⟨h, by omega, e⟩
    · rename_i h
      split at e
      · rename_i h2
        exact .inr ⟨by omega, by omega, e⟩
      · cases e
  · cases e
theorem item_list_at {a : Addr} {vs : List Value} {l : List AV} {i : Int} {t : Tok} {r : AV} (L : s.heap.IsList a (List.toArray vs)) (R : VRels prog w ad hf l vs) (e : atI l i = some r) (h : PureQ prog w ad hf s r Q) :
    wpAny (model prog w) A (getItem (.ref a) (.int i t)) Q E s := by
  obtain ⟨hl, c⟩ := atI_cases e
  have hlen := R.length
  rcases c with ⟨h0, h1, q⟩ | ⟨h0, h1, q⟩
  · obtain ⟨v, hv, hr⟩ := R.get q
    exact wpAny_getItem_list L h0 (by omega) (by simpa using hv) (h.now' hr)
  · obtain ⟨v, hv, hr⟩ := R.get q
    refine wpAny_getItem_list_neg L h0 (by simp; omega) (by omega) (x := v) ?_ (h.now' hr)
    rw [hlen] at hv
    simpa using hv
theorem seqIdx_pos {i : Int} {n : Nat} (h0 : 0 ≤ i) (h1 : i < n) : seqIndex? i n = some i.toNat := by
  unfold seqIndex?
  have e : (if i < 0 then i + (n : Int) else i) = i := if_neg (by omega)
  simp only [e]
  rw [if_pos (by simp; omega)]
theorem seqIdx_neg {i : Int} {n : Nat} (h0 : i < 0) (h1 : -(n : Int) ≤ i) : seqIndex? i n = some (i + n).toNat := by
  unfold seqIndex?
  have e : (if i < 0 then i + (n : Int) else i) = i + n := if_pos h0
  simp only [e]
  rw [if_pos (by simp; omega)]
theorem item_tup_at {a : Addr} {vs : List Value} {l : List AV} {i : Int} {t : Tok} {r : AV} (L : s.heap.IsTuple a (List.toArray vs)) (R : VRels prog w ad hf l vs) (e : atI l i = some r) (h : PureQ prog w ad hf s r Q) :
    wpAny (model prog w) A (getItem (.ref a) (.int i t)) Q E s := by
  obtain ⟨hl, c⟩ := atI_cases e
  have hlen := R.length
  rcases c with ⟨h0, h1, q⟩ | ⟨h0, h1, q⟩
  · obtain ⟨v, hv, hr⟩ := R.get q
    exact getItem_tuple (j := i.toNat) (isTup_of L) (by omega) (by omega) (by rw [List.size_toArray, ← hlen]; exact seqIdx_pos h0 h1) (by simpa using hv) (h.now' hr)
  · obtain ⟨v, hv, hr⟩ := R.get q
    exact getItem_tuple (j := (i + l.length).toNat) (isTup_of L) (by omega) (by omega) (by rw [List.size_toArray, ← hlen]; exact seqIdx_neg h0 h1) (by simpa using hv) (h.now' hr)
theorem typ_tup (s : Shared) {a : Addr} {vs : Array Value} (L : s.heap.IsTuple a vs) : s.TypeIs (.ref a) "tuple" := let ⟨o, ho, hc, _⟩ := L; ⟨o, ho, hc⟩
theorem prim_sub {value slice : Expr} {a k r : AV} {u v : Value} (S : Sit prog w cls h₀ ad hf σ s.heap) (e : subV σ a k = some r) (ha : VRel prog w ad hf a u) (hk : VRel prog w ad hf k v)
    (hs : ∀ o i, subscripted slice false o i = operate [o, i] (getItem o i)) (h : PureQ prog w ad hf s r Q) : wpAny (model prog w) A (subscriptTail value slice u v) Q E s := by
  unfold subV at e
  split at e
  · obtain ⟨x, vs, rfl, T, R⟩ := hfTup S ha
    rw [VRel] at hk
    obtain ⟨t, rfl⟩ := hk
    exact tail_any (typ_tup s T) slot_tuple_getitem.lookup (item_tup_at T R e h) (hs _ _)
  · obtain ⟨x, vs, rfl, T, R⟩ := hfLst S ha
    rw [VRel] at hk
    obtain ⟨t, rfl⟩ := hk
    exact tail_any T.isList.typeIs slot_list_getitem.lookup (item_list_at T.isList R e h) (hs _ _)
  · obtain ⟨x, o, vs, rfl, T, hs', R, d⟩ := hfDct S ha
    obtain ⟨r', hr, e⟩ := Option.bind_eq_some_iff.mp e
    have e : r' = some r := e
    subst e
    rcases keyOf_at hk hr R hs'.2 d with ⟨i, t, kvs, rfl, D, m⟩ | ⟨i, t, kvs, rfl, D, m⟩
    all_goals
      obtain ⟨y, my, hy⟩ := m
      have M := (Heap.dictOf_iff.mpr ⟨o, T, D⟩).mapOf
    · exact tail_any M.typeIs slot_dict_getitem.lookup (wpAny_getItem_of (intKind_is prog w i t) M my (h.now hy _)) (hs _ _)
    · exact tail_any M.typeIs slot_dict_getitem.lookup (wpAny_getItem_of (strKind_is prog w i t) M my (h.now hy _)) (hs _ _)
  · rename_i j i
    split at e
    · rename_i l hj
      rw [VRel] at ha
      rw [VRel] at hk
      obtain ⟨p, hp, rfl⟩ := ha
      obtain ⟨t, rfl⟩ := hk
      obtain ⟨_, vs, n, ho, R⟩ := S.ob _ _ _ hp hj
      have L : s.heap.IsList p.1 (List.toArray vs) := ⟨_, ho, rfl, n, rfl⟩
      exact tail_any L.typeIs slot_list_getitem.lookup (item_list_at L R e h) (hs _ _)
    · cases e
  · cases e
theorem prim_tl {value slice : Expr} {x : AV} {xs : List AV} {u : Value} {sl : Addr} {t : Tok} (S : Sit prog w cls h₀ ad hf σ s.heap) (hfit : fits xs = true) (ha : VRel prog w ad hf (.tup (x :: xs)) u) (hsl : s.heap.IsSliceOf sl (.int 1 t) .none .none)
    (hs : ∀ o i, subscripted slice false o i = operate [i, o] (getItem o i))
    (h : ∀ v' h' tk hf', Sit prog w cls h₀ ad hf' σ h' → Ext ad hf s.heap ad hf' h' → VRel prog w ad hf' (.tup xs) v' → Q v' { s with heap := h', toks := tk }) :
    wpAny (model prog w) A (subscriptTail value slice u (.ref sl)) Q E s := by
  obtain ⟨a, vs, rfl, T, R⟩ := hfTup S ha
  rw [VRels] at R
  obtain ⟨v, q, rfl, h1, h2⟩ := R
  have hl := h2.length
  have hfit' := fits_len hfit
  refine tail_any (typ_tup s T) slot_tuple_getitem.lookup (getItem_tuple_from (a := 1) (isTup_of T) hsl (Nat.le_refl _) (by simp) ?_ (by simp; rw [sizeLine_eq]; omega)) (hs _ _)
  have N := S.newFrozen (Grow.push s.heap { cls := .type "tuple", data := .seq q.toArray }) (size_none s.heap) (Heap.get?_push_size _ rfl)
  refine h _ _ s.toks _ N.1 N.2 ?_
  rw [VRel]
  exact ⟨_, q, _, rfl, fput_same, h2.mono N.2.pre N.2.hm⟩

/-! built-ins -/
theorem prim_len {a r : AV} {u : Value} (S : Sit prog w cls h₀ ad hf σ s.heap) (e : lenV a = some r) (ha : VRel prog w ad hf a u) (h : PureQ prog w ad hf s r Q) : wpAny (model prog w) A (call (.builtin "len") [u]) Q E s := by
  unfold lenV at e
  split at e
  · split at e
    · rename_i l hfit
      cases e
      obtain ⟨x, vs, rfl, T, R⟩ := hfTup S ha
      have hl := R.length
      have := fits_len hfit
      refine len_tuple (isTup_of T) (by simp; omega) (h.now ?_ _)
      rw [VRel]; exact ⟨s.toks + 1, by simp [hl]⟩
    · cases e
  · split at e
    · rename_i l hfit
      cases e
      obtain ⟨x, vs, rfl, T, R⟩ := hfLst S ha
      have hl := R.length
      have := fits_len hfit
      refine Calls.call_len_list T.isList (by simp; omega) (h.now ?_ _)
      rw [VRel]; exact ⟨s.toks + 1, by simp [hl]⟩
    · cases e
  · cases e
noncomputable def tyName : Nat → String
  | 0 => "int" | 1 => "bool" | _ => "tuple"
theorem prim_isi {T : Nat} {a : AV} {r : Bool} {u : Value} (S : Sit prog w cls h₀ ad hf σ s.heap) (hT : T ≤ 2) (e : isiV T a = some r) (ha : VRel prog w ad hf a u) (h : ∀ tk, Q (.bool r) { s with toks := tk }) :
    wpAny (model prog w) A (call (.builtin "isinstance") [u, .type (tyName T)]) Q E s := by
  unfold isiV at e
  split at e
  · cases e
    rw [VRel] at ha
    obtain ⟨t, rfl⟩ := ha
    rcases T with _ | _ | _ | T
    · exact IsiPair.int_int (h s.toks)
    · exact IsiPair.int_bool (h _)
    · exact IsiPair.int_tuple (h _)
    · omega
  · cases e
    obtain ⟨x, vs, rfl, L, R⟩ := hfTup S ha
    obtain ⟨o, ho, hc, _⟩ := L
    rcases T with _ | _ | _ | T
    · exact IsiPair.tuple_int ho hc (h _)
    · exact IsiPair.tuple_bool ho hc (h _)
    · exact IsiPair.tuple_tuple ho hc (h s.toks)
    · omega
  · cases e
theorem prim_int {a r : AV} {u : Value} (e : toIntV a = some r) (ha : VRel prog w ad hf a u) (h : PureQ prog w ad hf s r Q) : wpAny (model prog w) A (call (.type "int") [u]) Q E s := by
  unfold toIntV at e
  split at e
  · cases e
    rw [VRel] at ha; subst ha
    exact call_int_bool (h.now (by rw [VRel]; exact ⟨_, rfl⟩) _)
  · cases e
    rw [VRel] at ha
    obtain ⟨t, rfl⟩ := ha
    exact call_int_int (h.now' (by rw [VRel]; exact ⟨_, rfl⟩))
  · cases e
theorem prim_tup {l : List AV} {u : Value} (S : Sit prog w cls h₀ ad hf σ s.heap) (hfit : fits l = true) (ha : VRel prog w ad hf (.lst l) u)
    (h : ∀ v' h' tk hf', Sit prog w cls h₀ ad hf' σ h' → Ext ad hf s.heap ad hf' h' → VRel prog w ad hf' (.tup l) v' → Q v' { s with heap := h', toks := tk }) :
    wpAny (model prog w) A (call (.type "tuple") [u]) Q E s := by
  obtain ⟨a, vs, rfl, T, R⟩ := hfLst S ha
  have hl := R.length
  have hfit' := fits_len hfit
  refine call_tuple_list T.isList (fun h' hk => ?_) (by simp; rw [sizeLine_eq]; omega)
  have g : Grow s.heap h' := hk
  have S' := S.grow g
  have N := S'.newFrozen (Grow.push h' { cls := .type "tuple", data := .seq vs.toArray }) (size_none h') (Heap.get?_push_size _ rfl)
  refine h _ _ s.toks _ N.1 (g.ext.trans N.2) ?_
  rw [VRel]
  exact ⟨_, vs, _, rfl, fput_same, R.mono N.2.pre N.2.hm⟩
end
end Mine
/-! part MH -/
namespace Mine
open PySem PySem.W PyProof.Rows

section
variable {prog : Program} {w : World} {cls : Nat → Addr} {h₀ : Heap} {ad : Ad} {hf : Fz} {σ : Sto} {A : Around} {E : Value → Shared → Prop} {s : Shared} {Q : Value → Shared → Prop}

theorem intsAreL : ∀ {l : List AV} {vs : List Value} {ns : List Int}, intL l = some ns → VRels prog w ad hf l vs → IntsAre vs ns
  | [], vs, ns, e, x => by rw [VRels] at x; subst x; cases e; exact .nil
  | .int i :: r, vs, ns, e, x => by
    rw [VRels] at x
    obtain ⟨v, q, rfl, h1, h2⟩ := x
    rw [VRel] at h1
    obtain ⟨t, rfl⟩ := h1
    obtain ⟨k, hk, rfl⟩ := Option.map_eq_some_iff.mp e
    exact .cons i t (intsAreL hk h2)
  | .none :: r, _, _, e, _ => by cases e
  | .bool _ :: r, _, _, e, _ => by cases e
  | .str _ :: r, _, _, e, _ => by cases e
  | .tup _ :: r, _, _, e, _ => by cases e
  | .lst _ :: r, _, _, e, _ => by cases e
  | .dct _ _ :: r, _, _, e, _ => by cases e
  | .obj _ :: r, _, _, e, _ => by cases e
theorem boolsAreL : ∀ {l : List AV} {vs : List Value} {bs : List Bool}, boolL l = some bs → VRels prog w ad hf l vs → vs = bs.map Value.bool
  | [], vs, ns, e, x => by rw [VRels] at x; subst x; cases e; rfl
  | .bool i :: r, vs, ns, e, x => by
    rw [VRels] at x
    obtain ⟨v, q, rfl, h1, h2⟩ := x
    rw [VRel] at h1
    subst h1
    obtain ⟨k, hk, rfl⟩ := Option.map_eq_some_iff.mp e
    rw [List.map_cons, boolsAreL hk h2]
  | .none :: r, _, _, e, _ => by cases e
  | .int _ :: r, _, _, e, _ => by cases e
  | .str _ :: r, _, _, e, _ => by cases e
  | .tup _ :: r, _, _, e, _ => by cases e
  | .lst _ :: r, _, _, e, _ => by cases e
  | .dct _ _ :: r, _, _, e, _ => by cases e
  | .obj _ :: r, _, _, e, _ => by cases e
theorem range_all (bs : List Bool) : (List.range bs.length).all (fun i => bs.getD i true) = bs.all id := by
  induction bs with
  | nil => rfl
  | cons b r ih =>
    rw [List.length_cons, List.range_succ_eq_map, List.all_cons, List.all_map, List.all_cons]
    exact congrArg (b && ·) ih
theorem prim_all {a r : AV} {u : Value} (S : Sit prog w cls h₀ ad hf σ s.heap) (hh : A.handled = none) (e : allV a = some r) (ha : VRel prog w ad hf a u) (h : PureQ prog w ad hf s r Q) : wpAny (model prog w) A (call (.builtin "all") [u]) Q E s := by
  unfold allV at e
  split at e
  · obtain ⟨bs, hb, rfl⟩ := Option.map_eq_some_iff.mp e
    obtain ⟨l, vs, rfl, T, R⟩ := hfLst S ha
    have hv := boolsAreL hb R
    subst hv
    have hL := T.isList
    obtain ⟨o, ho, _⟩ := id hL
    have hl : l ≠ s.heap.objs.size := Nat.ne_of_lt (Heap.lt_size ho)
    refine call_all_walkS (wpAny_pyIter_list hL ⟨_, _, _, _, _, _, _, fun i => bs.getD i true, rfl, (Walks.list (A := A.in1.in1) hh s.heap.objs.size l hl _).of_in1.toS,
      ⟨⟨_, Heap.get?_push_size _ rfl, rfl, rfl⟩, hL.push _⟩, fun i v s Q E hv hq => ?_, fun s' hm => ?_⟩)
    · have hv' : (bs.map Value.bool)[i]? = some v := by simpa using hv
      rw [List.getElem?_map] at hv'
      obtain ⟨b, hb', rfl⟩ := Option.map_eq_some_iff.mp hv'
      have : bs.getD i true = b := by rw [List.getD_eq_getElem?_getD, hb']; rfl
      have hq' : Q b s := this ▸ hq
      exact wpAny_truthy_bool hq'
    · have e1 := hm.eq_with
      rw [e1]
      have e2 : (List.range (List.toArray (bs.map Value.bool)).size).all (fun i => bs.getD i true) = bs.all id := by
        simp only [List.size_toArray, List.length_map]; exact range_all bs
      rw [e2]
      refine h _ _ _ (fun b o e => hm.heap b o (fun z => ?_) (Heap.get?_push_of_some _ e)) (by rw [VRel])
      rcases List.mem_cons.mp z with z | z
      · rw [z, size_none] at e; cases e
      · cases z
  · cases e
theorem prim_sum {a r : AV} {u : Value} (S : Sit prog w cls h₀ ad hf σ s.heap) (hh : A.handled = none) (e : sumV a = some r) (ha : VRel prog w ad hf a u) (h : PureQ prog w ad hf s r Q) : wpAny (model prog w) A (call (.builtin "sum") [u]) Q E s := by
  unfold sumV at e
  split at e
  · obtain ⟨ns, hn, rfl⟩ := Option.map_eq_some_iff.mp e
    obtain ⟨l, vs, rfl, T, R⟩ := hfLst S ha
    have hi := intsAreL hn R
    have hL := T.isList
    obtain ⟨xs, hx⟩ := hi.allInts.items
    rw [hx] at hL
    refine sum_intListG hh hL fun h' tk t' hk => h _ _ _ hk ?_
    rw [preSum_eq, List.take_of_length_le (by simp), VRel]
    refine ⟨t', ?_⟩
    have e1 : numsOf vs = ns := hi.numsOf
    have e2 : vs = (intItems xs).toList := by rw [← hx]
    rw [e2, nums_intItems] at e1
    rw [e1]
  · cases e
theorem prim_lenset {a r : AV} {u : Value} (S : Sit prog w cls h₀ ad hf σ s.heap) (hh : A.handled = none) (e : lensetV a = some r) (ha : VRel prog w ad hf a u) (h : PureQ prog w ad hf s r Q) :
    wpAny (model prog w) A (call (.type "set") [u]) (fun v s' => wpAny (model prog w) A (call (.builtin "len") [v]) Q E s') E s := by
  unfold lensetV at e
  split at e
  · split at e
    · rename_i l hlen
      have hlen := of_decide_eq_true hlen
      obtain ⟨ns, hn, rfl⟩ := Option.map_eq_some_iff.mp e
      obtain ⟨l, vs, rfl, T, R⟩ := hfLst S ha
      have hi := intsAreL hn R
      have hvl := R.length
      have hnl : vs.length = ns.length := IntsAre.length hi
      have hsb : (List.toArray vs).size + 1 < scanBound := by simp [scanBound]; omega
      refine call_set_list hh T.isList (by simpa using hi) hsb fun h' tk hS hk => ?_
      obtain ⟨o, ho, hso⟩ := hS.objOf
      obtain ⟨hex, es, ep, t, hd, _, _, hn', hfit⟩ := hso
      have e1 : (firstMet (fun i => ns.getD i 0) (List.toArray vs).size) = ns.foldl stepD [] := by
        unfold firstMet
        rw [List.size_toArray, hnl]
        have : (List.range ns.length).map (fun i => ns.getD i 0) = ns := by
          apply List.ext_getElem?
          intro i
          rw [List.getElem?_map]
          by_cases q : i < ns.length
          · rw [List.getElem?_range q, Option.map_some, List.getD_eq_getElem?_getD, List.getElem?_eq_getElem q]; rfl
          · rw [List.getElem?_eq_none (by simpa using q), List.getElem?_eq_none (by omega)]; rfl
        rw [this]; rfl
      rw [e1] at hn'
      have hle : es.size ≤ 1000 := by
        have h1 := firstMet_length_le (fun i => ns.getD i 0) (List.toArray vs).size
        rw [e1] at h1
        simp only [List.size_toArray] at h1
        omega
      refine call_len_set ho hex hd hfit (by omega) ?_
      refine h _ h' _ (fun b o e => hk b o (Heap.lt_size e) e) ?_
      rw [VRel]
      exact ⟨tk + 1, by rw [hn']⟩
    · cases e
  · cases e
inductive GetOK (prog : Program) (w : World) (cls : Nat → Addr) (h₀ : Heap) (ks us : List AV) (d : Value) (Q : Value → Shared → Prop) (key dflt : Value) (s : Shared) : Prop
  | mk (k : AV) (r : Option AV) (ad : Ad) (hf : Fz) (σ : Sto) (S : Sit prog w cls h₀ ad hf σ s.heap) (D : VRel prog w ad hf (.dct ks us) d) (K : VRel prog w ad hf k key) (e : keyOf ks us k = some r)
    (fin : ∀ v tk, ((∃ b, r = some b ∧ VRel prog w ad hf b v) ∨ (r = none ∧ v = dflt)) → Q v { s with toks := tk }) : GetOK prog w cls h₀ ks us d Q key dflt s
noncomputable def sameKind (a : AV) : Value → Prop
  | .str _ _ => ∃ j, a = .str j
  | .int _ _ => ∃ j, a = .int j
  | _ => True
theorem v_kind {ad : Ad} {hf : Fz} {k : AV} {v : Value} (K : VRel prog w ad hf k v) : sameKind k v := by
  cases k with
  | none => rw [VRel] at K; rw [K]; trivial
  | bool b => rw [VRel] at K; rw [K]; trivial
  | int j => rw [VRel] at K; obtain ⟨_, K⟩ := K; rw [K]; exact ⟨j, rfl⟩
  | str j => rw [VRel] at K; obtain ⟨_, _, K⟩ := K; rw [K]; exact ⟨j, rfl⟩
  | tup l => rw [VRel] at K; obtain ⟨_, _, _, K, _⟩ := K; rw [K]; trivial
  | lst l => rw [VRel] at K; obtain ⟨_, _, _, K, _⟩ := K; rw [K]; trivial
  | dct l m => rw [VRel] at K; obtain ⟨_, _, _, K, _⟩ := K; rw [K]; trivial
  | obj l => rw [VRel] at K; obtain ⟨_, _, K⟩ := K; rw [K]; trivial
theorem v_str {ad : Ad} {hf : Fz} {k : AV} {i : Str} {t : Tok} (K : VRel prog w ad hf k (.str i t)) : ∃ j, k = .str j := v_kind K
theorem v_int {ad : Ad} {hf : Fz} {k : AV} {i : Int} {t : Tok} (K : VRel prog w ad hf k (.int i t)) : ∃ j, k = .int j := v_kind K
theorem key_si {ns : List Int} {us : List AV} {j : Nat} {r : Option AV} (hne : ns.map AV.int ≠ []) (h : keyOf (ns.map .int) us (.str j) = some r) : False := by
  cases ns with
  | nil => exact hne rfl
  | cons n ns => cases us with
    | nil => cases h
    | cons u us => obtain ⟨q, hq, _⟩ := Option.bind_eq_some_iff.mp h; cases hq
theorem key_is {ns : List Nat} {us : List AV} {j : Int} {r : Option AV} (hne : ns.map AV.str ≠ []) (h : keyOf (ns.map .str) us (.int j) = some r) : False := by
  cases ns with
  | nil => exact hne rfl
  | cons n ns => cases us with
    | nil => cases h
    | cons u us => obtain ⟨q, hq, _⟩ := Option.bind_eq_some_iff.mp h; cases hq
theorem got {ad : Ad} {hf : Fz} {r : Option AV} {x : Option Value} {dflt : Value} {s : Shared} {tk : Nat} (m : OptRel prog w ad hf r x) (fin : ∀ v tk, ((∃ b, r = some b ∧ VRel prog w ad hf b v) ∨ (r = none ∧ v = dflt)) → Q v { s with toks := tk }) : Q (x.getD dflt) { s with toks := tk } := by
  refine fin _ _ ?_
  cases r with
  | none => rw [show x = none from m]; exact .inr ⟨rfl, rfl⟩
  | some b => obtain ⟨u, m1, m2⟩ := m; rw [m1]; exact .inl ⟨b, rfl, m2⟩
theorem dget_int {ns : List Int} {us : List AV} {a : Addr} {key dflt : Value} {s : Shared} (hne : ns.map AV.int ≠ []) (h : GetOK prog w cls h₀ (ns.map .int) us (.ref a) Q key dflt s) :
    ∃ k f, (intKind prog w).is k key = true ∧ s.heap.MapOf (intKind prog w) a f ∧ Q ((f k).getD dflt) { s with toks := s.toks + 1 } := by
  obtain ⟨k, r, ad, hf, σ, S, D, K, hr, fin⟩ := h
  obtain ⟨a', o', vs', e2, T', hs', R', dk'⟩ := hfDct S D
  cases e2
  rcases keyOf_at K hr R' hs'.2 dk' with ⟨i, t, kvs, rfl, D', m⟩ | ⟨i, t, kvs, rfl, D', m⟩
  · exact ⟨i, _, intKind_is prog w i t, (Heap.dictOf_iff.mpr ⟨o', T', D'⟩).mapOf, got m fin⟩
  · exfalso
    obtain ⟨j, rfl⟩ := v_str K
    exact key_si hne hr
theorem dget_str {ns : List Nat} {us : List AV} {a : Addr} {key dflt : Value} {s : Shared} (hne : ns.map AV.str ≠ []) (h : GetOK prog w cls h₀ (ns.map .str) us (.ref a) Q key dflt s) :
    ∃ k f, (PySem.strKind prog w).is k key = true ∧ s.heap.MapOf (PySem.strKind prog w) a f ∧ Q ((f k).getD dflt) { s with toks := s.toks + 1 } := by
  obtain ⟨k, r, ad, hf, σ, S, D, K, hr, fin⟩ := h
  obtain ⟨a', o', vs', e2, T', hs', R', dk'⟩ := hfDct S D
  cases e2
  rcases keyOf_at K hr R' hs'.2 dk' with ⟨i, t, kvs, rfl, D', m⟩ | ⟨i, t, kvs, rfl, D', m⟩
  · exfalso
    obtain ⟨j, rfl⟩ := v_int K
    exact key_is hne hr
  · exact ⟨i, _, strKind_is prog w i t, (Heap.dictOf_iff.mpr ⟨o', T', D'⟩).mapOf, got m fin⟩
theorem meth_dget {pos : Pos} {ks us : List AV} {d : Value} {t1 t2 : Sem Value} (S : Sit prog w cls h₀ ad hf σ s.heap) (hd : VRel prog w ad hf (.dct ks us) d)
    (h : wpAny (model prog w) A t1 (fun key s₁ => wpAny (model prog w) A t2 (fun dflt s₂ => GetOK prog w cls h₀ ks us d Q key dflt s₂) E s₁) E s) :
    MethodOn prog w A "get" pos d [(false, t1), (false, t2)] Q E s := by
  obtain ⟨a, o, vs, rfl, T, hs, R, dk⟩ := hfDct S hd
  have ex : o.ExactDict := by
    rcases dk with ⟨ns, _, _, D⟩ | ⟨ns, _, _, _, D⟩
    · obtain ⟨_, _, ex, _⟩ := D; exact ex
    · obtain ⟨_, _, ex, _⟩ := D; exact ex
  refine ⟨"dict", "dict.get", F.plainAttrs_dict, F.slot_dict_get, F.type_dict_get, ⟨o, T, ex.1⟩, fun b e => (by cases e; exact ⟨o, T, ex.2.1⟩), ?_⟩
  rcases dk with ⟨ns, rfl, _⟩ | ⟨ns, rfl, _⟩
  · exact wpAny_dict_get2 (knd := intKind prog w) hs.1 (wpAny_mono h (fun key s₁ h₁ => wpAny_mono h₁ (fun dflt s₂ h₂ => dget_int hs.2 h₂) fun _ _ e => e) fun _ _ e => e)
  · exact wpAny_dict_get2 (knd := PySem.strKind prog w) hs.1 (wpAny_mono h (fun key s₁ h₁ => wpAny_mono h₁ (fun dflt s₂ h₂ => dget_str hs.2 h₂) fun _ _ e => e) fun _ _ e => e)
end
end Mine
/-! part MI -/
namespace Mine
open PySem PySem.W PyProof.Rows

section
variable {prog : Program} {w : World} {cls : Nat → Addr} {h₀ : Heap} {ad : Ad} {hf : Fz} {σ : Sto} {A : Around} {E : Value → Shared → Prop} {s : Shared} {Q : Value → Shared → Prop}

noncomputable abbrev lstO (vs : List Value) (n : Nat) : Obj := { cls := .type "list", data := .seq (List.toArray vs) n }
theorem hfLstX (S : Sit prog w cls h₀ ad hf σ s.heap) {l : List AV} {v : Value} (x : VRel prog w ad hf (.lst l) v) : ∃ a vs n, v = .ref a ∧ s.heap.get? a = some (lstO vs n) ∧ VRels prog w ad hf l vs := by
  rw [VRel] at x
  obtain ⟨a, vs, n, rfl, e, r⟩ := x
  exact ⟨a, vs, n, rfl, S.fro a _ e, r⟩
theorem hfTupX (S : Sit prog w cls h₀ ad hf σ s.heap) {l : List AV} {v : Value} (x : VRel prog w ad hf (.tup l) v) : ∃ a vs n, v = .ref a ∧ s.heap.get? a = some { cls := .type "tuple", data := .seq (List.toArray vs) n } ∧ VRels prog w ad hf l vs := by
  rw [VRel] at x
  obtain ⟨a, vs, n, rfl, e, r⟩ := x
  exact ⟨a, vs, n, rfl, S.fro a _ e, r⟩

/-- what a fresh list gives -/
noncomputable abbrev FreshQ (prog : Program) (w : World) (ad : Ad) (hf : Fz) (s : Shared) (l : List AV) (Q : Value → Shared → Prop) : Prop :=
  ∀ a vs n h' tk, Grow s.heap h' → s.heap.get? a = none → h'.get? a = some (lstO vs n) → VRels prog w ad hf l vs → Q (.ref a) { s with heap := h', toks := tk }
theorem FreshQ.push {l : List AV} (h : FreshQ prog w ad hf s l Q) {vs : List Value} (R : VRels prog w ad hf l vs) (n : Nat) : Q (.ref s.heap.objs.size) { s with heap := s.heap.push (lstO vs n) } :=
  h _ vs n _ s.toks (Grow.push _ _) (size_none _) (Heap.get?_push_size _ rfl) R

theorem prim_cat {l m : List AV} {u v : Value} (S : Sit prog w cls h₀ ad hf σ s.heap) (hfit : (fits l && fits m) = true) (ha : VRel prog w ad hf (.lst l) u) (hb : VRel prog w ad hf (.lst m) v) (h : FreshQ prog w ad hf s (l ++ m) Q) :
    wpAny (model prog w) A (binaryOp .Add u v) Q E s := by
  obtain ⟨f1, f2⟩ := Bool.and_eq_true_iff.mp hfit
  have f1 := fits_len f1
  have f2 := fits_len f2
  obtain ⟨a, vs, n, rfl, T, R⟩ := hfLstX S ha
  obtain ⟨b, us, n', rfl, T', R'⟩ := hfLstX S hb
  have l1 := R.length
  have l2 := R'.length
  refine PySem.P.add_list T T' ?_ (by simp; rw [sizeLine_eq]; omega)
  have := h.push (R.append R') 0
  simpa [lstO] using this
theorem repL_one (x : AV) : ∀ n, repL [x] n = List.replicate n x
  | 0 => rfl
  | n + 1 => by rw [repL, repL_one x n]; rfl
theorem VRels.replicate {a : AV} {v : Value} (x : VRel prog w ad hf a v) : ∀ n, VRels prog w ad hf (List.replicate n a) (List.replicate n v)
  | 0 => VRels.nil
  | n + 1 => by rw [List.replicate_succ, List.replicate_succ]; exact VRels.cons x (VRels.replicate x n)
theorem flat_one (v : Value) : ∀ n, (List.replicate n [v]).flatten = List.replicate n v
  | 0 => rfl
  | n + 1 => by rw [List.replicate_succ, List.flatten_cons, flat_one v n, List.replicate_succ]; rfl
theorem prim_rep {l : AV} {n : Int} {u v : Value} (S : Sit prog w cls h₀ ad hf σ s.heap) (hn : (decide (0 ≤ n) && decide (n ≤ 1000)) = true) (ha : VRel prog w ad hf (.lst [l]) u) (hb : VRel prog w ad hf (.int n) v) (h : FreshQ prog w ad hf s (repL [l] n.toNat) Q) :
    wpAny (model prog w) A (binaryOp .Mult u v) Q E s := by
  simp only [Bool.and_eq_true, decide_eq_true_eq] at hn
  obtain ⟨a, vs, k, rfl, T, R⟩ := hfLstX S ha
  rw [VRel] at hb
  obtain ⟨t, rfl⟩ := hb
  rw [VRels] at R
  obtain ⟨x, q, rfl, h1, h2⟩ := R
  rw [VRels] at h2; subst h2
  have hsz : (List.toArray [x]).size = 1 := rfl
  refine wpAny_binaryOp_repeat_ref (T := "list") (U := "int") (by decide) ⟨_, T, rfl⟩ (fun s' => typeIs_int s' n t) noFill_list_mul F.fills_int_mul F.slot_int_rmul repeat_list F.slot_int_index.lookup
    (call_meets F.slot_int_rmul (typeIs_int s n t) F.entry_int_rmul (F.args_int_rmul_2 _ _) (lm_int_rmul_list_any n t a (List.toArray [x]) k none #[])
      ⟨T, rfl, ⟨_, T, rfl⟩, call_meets F.slot_list_mul ⟨_, T, rfl⟩ F.entry_list_mul (F.args_list_mul_2 _ _)
        (lm_list_mul_any a (List.toArray [x]) k none #[] n t (by simp [Builtin.List.listFitsIndex]; omega) (by rw [hsz]; omega) (by rw [hsz]; simp [Builtin.List.listTooLong, sizeLine]; omega))
        ⟨T, ?_⟩⟩)
  rw [listMul_foldl_if, show (List.toArray [x]).toList = [x] from rfl, flat_one]
  rw [repL_one] at h
  exact h.push (VRels.replicate h1 _) 0
noncomputable def PartV (prog : Program) (w : World) (ad : Ad) (hf : Fz) : Option AV → Value → Prop
  | some x, v => VRel prog w ad hf x v
  | none, v => v = .none
theorem prim_slice {l r : List AV} {lo hi : Option AV} {u vl vh : Value} {sl : Addr} (S : Sit prog w cls h₀ ad hf σ s.heap) (hfit : fits l = true) (e : cutL l lo hi = some r) (ha : VRel prog w ad hf (.lst l) u)
    (hl : PartV prog w ad hf lo vl) (hh : PartV prog w ad hf hi vh) (hsl : s.heap.IsSliceOf sl vl vh .none) (h : FreshQ prog w ad hf s r Q) :
    wpAny (model prog w) A (getItem u (.ref sl)) Q E s := by
  have f1 := fits_len hfit
  obtain ⟨a, vs, n, rfl, T, R⟩ := hfLstX S ha
  have l1 := R.length
  have hL : s.heap.IsList a (List.toArray vs) := PySem.IsL.isList T
  have hsz : (List.toArray vs).size ≤ sizeLine := by simp; rw [sizeLine_eq]; omega
  unfold cutL at e
  split at e
  · rename_i i
    split at e
    · rename_i q
      cases e
      have hh : vh = .none := hh
      have hl : VRel prog w ad hf (.int i) vl := hl
      subst hh
      rw [VRel] at hl
      obtain ⟨t, rfl⟩ := hl
      simp only [Bool.and_eq_true, decide_eq_true_eq] at q
      have q2 := small_lt q.2
      obtain ⟨k, rfl⟩ := Int.eq_ofNat_of_zero_le q.1
      refine wpAny_getItem_list_slice hL hsl (.int _ _) .none .none (by simp) ?_ hsz
      rw [slicePick_from']
      exact h.push (R.drop k) 0
    · cases e
  · rename_i i
    split at e
    · rename_i q
      cases e
      have hl : vl = .none := hl
      have hh : VRel prog w ad hf (.int i) vh := hh
      subst hl
      rw [VRel] at hh
      obtain ⟨t, rfl⟩ := hh
      simp only [Bool.and_eq_true, decide_eq_true_eq] at q
      have q2 := small_lt q.2
      obtain ⟨k, rfl⟩ := Int.eq_ofNat_of_zero_le q.1
      refine wpAny_getItem_list_slice hL hsl .none (.int _ _) .none (by simp) ?_ hsz
      rw [slicePick_upto']
      exact h.push (R.take k) 0
    · cases e
  · cases e
theorem prim_listOf {l : List AV} {u : Value} (S : Sit prog w cls h₀ ad hf σ s.heap) (hfit : fits l = true) (ha : VRel prog w ad hf (.lst l) u) (h : FreshQ prog w ad hf s l Q) :
    wpAny (model prog w) A (call (.type "list") [u]) Q E s := by
  have f1 := fits_len hfit
  obtain ⟨a, vs, n, rfl, T, R⟩ := hfLstX S ha
  have l1 := R.length
  exact call_list_seq a (.inl rfl) T rfl rfl (fun h' c' g e => h _ vs c' h' s.toks g (size_none _) e R) (by simp; rw [sizeLine_eq]; omega)
end
end Mine
/-! part MJ -/
namespace Mine
open PySem PySem.W PyProof.Rows

section
variable {prog : Program} {w : World} {cls : Nat → Addr} {h₀ h h' : Heap} {hE : Fz} {ad adE : Ad} {hf hfE : Fz} {σ : Sto} {env : Env} {ρ : Loc} {m : Str → Option Value} {oa : Nat → Addr}
theorem Fra.upd {k : Nat} {l l' : List AV} {vs : List Value} {n : Nat} (F : Fra prog w hE env ρ ad hf h m oa) (hk : k < wmax) (e : look k ρ = some (.own l)) (hs : Heap.SameBut (oa k) h h') (ho : h'.get? (oa k) = some (lstO vs n)) (R : VRels prog w ad hf l' vs) :
    Fra prog w hE env (put k (.own l') ρ) ad hf h' m oa := by
  have P := F.po k l e hk
  have cellKeep : ∀ x c v, env.cells.lookup x = some c → h.IsCell c v → h'.IsCell c v := fun x c v q z => z.sameBut hs (Ne.symm (P.2.2.2.1 x c q))
  refine ⟨F.kind, F.glob, F.blt, F.ns.sameBut hs (Ne.symm P.2.2.1), fun j u q hj => ?_, fun y hy => ?_, F.pl, fun y c q => ?_, F.cc, fun j l₁ q hj => ?_, fun i j l₁ l₂ q q' hi hj ne => ?_⟩
  · rw [look_put] at q
    by_cases z : j = k
    · subst z
      rw [if_pos rfl] at q; cases q
      obtain ⟨v, V, L⟩ := F.vars j _ e hk
      refine ⟨v, ⟨V.1, fun z => ?_⟩, L.1, vs, n, ho, R⟩
      obtain ⟨c, hc, hv⟩ := V.2 z
      exact ⟨c, hc, cellKeep _ c _ hc hv⟩
    · rw [if_neg z] at q
      obtain ⟨v, V, L⟩ := F.vars j u q hj
      refine ⟨v, ⟨V.1, fun z' => ?_⟩, ?_⟩
      · obtain ⟨c, hc, hv⟩ := V.2 z'
        exact ⟨c, hc, cellKeep _ c _ hc hv⟩
      · cases u with
        | val a => exact L
        | own l₁ => obtain ⟨e1, vs', n', q1, z1⟩ := L; exact ⟨e1, vs', n', (hs.2 _ (F.oo j k l₁ l q e hj hk z)).trans q1, z1⟩
        | dead => trivial
  · obtain ⟨c, v', hc, hv⟩ := F.cl y hy
    exact ⟨c, v', hc, cellKeep _ c _ hc hv⟩
  · obtain ⟨a1, b, d, v', z⟩ := F.pc y c q
    exact ⟨a1, b, d, v', cellKeep _ c _ q z⟩
  · rw [look_put] at q
    by_cases z : j = k
    · subst z; exact P
    · rw [if_neg z] at q; exact F.po j l₁ q hj
  · have fix : ∀ j l₁, look j (put k (.own l') ρ) = some (.own l₁) → ∃ l₂, look j ρ = some (.own l₂) := fun j l₁ q => by
      rw [look_put] at q
      by_cases z : j = k
      · subst z; exact ⟨l, e⟩
      · rw [if_neg z] at q; exact ⟨l₁, q⟩
    obtain ⟨_, q1⟩ := fix i l₁ q
    obtain ⟨_, q2⟩ := fix j l₂ q'
    exact F.oo i j _ _ q1 q2 hi hj ne
theorem Sit.frz (S : Sit prog w cls h₀ ad hf σ h) (F : Fra prog w hE env ρ ad hf h m oa) (X : ExtF adE hfE hE ad hf h) {k : Nat} {l : List AV} (hk : k < wmax) (e : look k ρ = some (.own l)) :
    ∃ hf', Sit prog w cls h₀ ad hf' σ h ∧ Fra prog w hE env (put k (.val (.lst l)) ρ) ad hf' h m oa ∧ ExtF adE hfE hE ad hf' h := by
  obtain ⟨p1, p2, p3, p4, p5⟩ := F.po k l e hk
  obtain ⟨v, V, rfl, vs, n, ho, R⟩ := F.vars k _ e hk
  have mono := fput_mono (o := lstO vs n) p1
  refine ⟨fput hf (oa k) (lstO vs n), S.freeze ho p1 p2, ⟨F.kind, F.glob, F.blt, F.ns, fun j u q hj => ?_, F.cl, ⟨?_, F.pl.2⟩, fun y c q => ?_, F.cc, fun j l₁ q hj => ?_, fun i j l₁ l₂ q q' hi hj ne => ?_⟩, fun a o q => mono _ _ (X.hm a o q), fun a o q f z => ?_, X.ap, X.kp, X.ke⟩
  · rw [look_put] at q
    by_cases z : j = k
    · subst z
      rw [if_pos rfl] at q; cases q
      refine ⟨_, V, ?_⟩
      show VRel prog w ad _ (.lst l) _
      rw [VRel]
      exact ⟨_, vs, n, rfl, fput_same, R.mono (pre_refl _) mono⟩
    · rw [if_neg z] at q
      obtain ⟨v, V, L⟩ := F.vars j u q hj
      refine ⟨v, V, ?_⟩
      cases u with
      | val a => exact VRel.mono (pre_refl _) mono L
      | own l₁ => obtain ⟨e1, vs', n', q1, z1⟩ := L; exact ⟨e1, vs', n', q1, z1.mono (pre_refl _) mono⟩
      | dead => trivial
  · rw [fput_ne (Ne.symm p3)]; exact F.pl.1
  · obtain ⟨a1, b, d, z⟩ := F.pc y c q
    exact ⟨by rw [fput_ne (Ne.symm (p4 y c q))]; exact a1, b, d, z⟩
  · rw [look_put] at q
    by_cases z : j = k
    · subst z; rw [if_pos rfl] at q; cases q
    · rw [if_neg z] at q
      obtain ⟨a1, b⟩ := F.po j l₁ q hj
      exact ⟨by rw [fput_ne (F.oo j k l₁ l q e hj hk z)]; exact a1, b⟩
  · rw [look_put] at q q'
    by_cases z : i = k
    · subst z; rw [if_pos rfl] at q; cases q
    · by_cases z' : j = k
      · subst z'; rw [if_pos rfl] at q'; cases q'
      · rw [if_neg z] at q; rw [if_neg z'] at q'; exact F.oo i j l₁ l₂ q q' hi hj ne
  · rw [fput_ne (fun y => by rw [y, p5] at q; cases q)]; exact X.hn a o q f z
end

section
variable {prog : Program} {w : World} {cls : Nat → Addr} {h₀ : Heap} {ad : Ad} {hf : Fz} {σ : Sto} {A : Around} {E : Value → Shared → Prop} {s : Shared}
theorem erase_last : ∀ vs : List Value, vs.eraseIdx (vs.length - 1) = vs.dropLast
  | [] => rfl
  | [_] => rfl
  | a :: b :: r => by
    have := erase_last (b :: r)
    show (a :: b :: r).eraseIdx (r.length + 1) = _
    rw [List.eraseIdx_cons_succ, List.dropLast_cons_cons]
    exact congrArg _ this
theorem own_append {a : Addr} {x : Sem Value} {pos : Pos} {Q : Value → Shared → Prop}
    (h : wpAny (model prog w) A x (fun v s₁ => ∃ vs n, s₁.heap.get? a = some (lstO vs n) ∧ vs.length ≤ 1000000 ∧ ∀ h' n', Heap.SameBut a s₁.heap h' → h'.get? a = some (lstO (vs ++ [v]) n') → Q .none { s₁ with heap := h' }) E s) :
    wpAny (model prog w) A (callWith pos (.builtin "list.append") [.ref a] [(false, x)] []) Q E s := by
  refine PySem.P.append_list (wpAny_mono h (fun v s₁ h₁ => ?_) fun _ _ e => e)
  obtain ⟨vs, n, ho, hl, fin⟩ := h₁
  have := PySem.IsL.update ho (fun xs => xs.push v)
  simp only [List.push_toArray] at this
  exact ⟨_, n, by simp; rw [sizeLine_eq]; omega, ho, fin _ _ (Heap.SameBut.update ..) this⟩
theorem own_extendL {a : Addr} {x : Sem Value} {pos : Pos} {Q : Value → Shared → Prop}
    (h : wpAny (model prog w) A x (fun v s₁ => ∃ vs n b us n' T, (T = "list" ∨ T = "tuple") ∧ v = .ref b ∧ s₁.heap.get? a = some (lstO vs n) ∧ s₁.heap.get? b = some { cls := .type T, data := .seq (List.toArray us) n' } ∧ vs.length ≤ 1000000 ∧ us.length ≤ 1000000 ∧
      ∀ h' n', Heap.SameBut a s₁.heap h' → h'.get? a = some (lstO (vs ++ us) n') → Q .none { s₁ with heap := h' }) E s) :
    wpAny (model prog w) A (callWith pos (.builtin "list.extend") [.ref a] [(false, x)] []) Q E s := by
  refine seqMethod1_meets F.slot_list_extend F.entry_list_extend (wpAny_mono h (fun v s₁ h₁ => ?_) fun _ _ e => e)
  obtain ⟨vs, n, b, us, n', T, hT, rfl, ho, hb, l1, l2, fin⟩ := h₁
  have z1 : (List.toArray vs).size ≤ sizeLine := by simp; rw [sizeLine_eq]; omega
  have z2 : (List.toArray vs).size + (List.toArray us).size ≤ sizeLine := by simp; rw [sizeLine_eq]; omega
  have up := PySem.IsL.update ho (fun xs => xs ++ List.toArray us)
  simp only [List.append_toArray] at up
  have fin' := fin _ _ (Heap.SameBut.update ..) up
  rcases hT with rfl | rfl
  · exact ⟨⟨_, ho, rfl⟩, F.args_list_extend_2 _ _, _, AutoSeq1.list_extend_list_list_0 a _ n b _ n' (extend_door z2) z1 (Nat.le_succ_of_le z2), ho, hb, fin'⟩
  · exact ⟨⟨_, ho, rfl⟩, F.args_list_extend_2 _ _, _, AutoSeq1.list_extend_list_tuple_0 a _ n b _ n' (extend_door z2) z1 (Nat.le_succ_of_le z2), ho, hb, fin'⟩
theorem own_pop {a : Addr} {vs : List Value} {n : Nat} {y : Value} {pos : Pos} {Q : Value → Shared → Prop} (ho : s.heap.get? a = some (lstO vs n)) (hl : vs.length ≤ 1000000) (hy : vs.getLast? = some y)
    (h : ∀ h' n', Heap.SameBut a s.heap h' → h'.get? a = some (lstO vs.dropLast n') → Q y { s with heap := h' }) :
    wpAny (model prog w) A (callWith pos (.builtin "list.pop") [.ref a] [] []) Q E s := by
  have := PySem.IsL.update ho (fun xs => xs.eraseIdxIfInBounds ((List.toArray vs).size - 1))
  have e : (List.toArray vs).eraseIdxIfInBounds ((List.toArray vs).size - 1) = List.toArray vs.dropLast := by
    simp only [List.eraseIdxIfInBounds_toArray, List.size_toArray, erase_last]
  rw [e] at this
  exact PySem.P.pop_list ho (by rw [List.getLast?_eq_getElem?] at hy; simpa using hy) (h _ _ (Heap.SameBut.update ..) this) (by simp; rw [sizeLine_eq]; omega)
theorem own_set {a : Addr} {vs : List Value} {l l' : List AV} {n : Nat} {i : Int} {t : Tok} {x : AV} {v : Value} {Q : Unit → Shared → Prop} (ho : s.heap.get? a = some (lstO vs n)) (R : VRels prog w ad hf l vs) (e : setI l i x = some l') (hv : VRel prog w ad hf x v)
    (h : ∀ h' us n', Heap.SameBut a s.heap h' → h'.get? a = some (lstO us n') → VRels prog w ad hf l' us → Q () { s with heap := h' }) :
    wpAny (model prog w) A (setItem (.ref a) (.int i t) v) Q E s := by
  have hlen := R.length
  have size : ∀ j, (List.toArray vs).setIfInBounds j v = List.toArray (vs.set j v) := fun j => by simp
  unfold setI at e
  split at e
  · cases e
  · rename_i hfit
    have hfit : l.length ≤ 1000000 := fits_len (by simpa using hfit)
    have up : ∀ j, (s.heap.update a (Obj.mapSeq fun xs => xs.setIfInBounds j v)).get? a = some (lstO (vs.set j v) n) := fun j => by
      have := PySem.IsL.update ho (fun xs => xs.setIfInBounds j v)
      rw [size] at this
      simpa using this
    split at e
    · rename_i h0
      split at e
      · rename_i h1
        cases e
        exact ki_setAt ho h0 (by omega) (by simp; omega) (h _ _ _ (Heap.SameBut.update ..) (up _) (R.set hv))
      · cases e
    · rename_i h0
      split at e
      · rename_i h1
        cases e
        refine ki_setBack ho (by omega) (by simp; omega) (by omega) (h _ _ _ (Heap.SameBut.update ..) (up _) ?_)
        have := R.set (i := (i + l.length).toNat) hv
        simpa [← hlen] using this
      · cases e
theorem own_notin {a : Addr} {vs : List Value} {l : List AV} {n : Nat} {x : AV} {v : Value} {r : Bool} {Q : Value → Shared → Prop} (ho : s.heap.get? a = some (lstO vs n)) (R : VRels prog w ad hf l vs) (e : isinL x l = some r) (hx : VRel prog w ad hf x v)
    (h : Q (.bool (!r)) s) : wpAny (model prog w) A (compareOp .NotIn v (.ref a)) Q E s := by
  obtain ⟨hE, rfl⟩ := isinL_at hx e R
  exact SeqAt.notIn_listAt _ (PySem.IsL.isList ho) (fun y hy => hE A.in1 s y (by simpa using hy)) (by simpa using h)
theorem own_neE {a b : Addr} {vs : List Value} {n n' : Nat} {Q : Value → Shared → Prop} (hu : A.units < cLine) (ho : s.heap.get? a = some (lstO vs n)) (hb : s.heap.get? b = some (lstO [] n')) (h : Q (.bool (!vs.isEmpty)) s) :
    wpAny (model prog w) A (compareOp .NotEq (.ref a) (.ref b)) Q E s := by
  refine cmp_ofNotEq ?_
  cases vs with
  | nil => exact SeqAt.RcNeAt.lists (e := fun _ => true) (PySem.IsL.isList ho) (PySem.IsL.isList hb) rfl hu (fun j h1 _ => absurd h1 (Nat.not_lt_zero _)) prog w E Q h
  | cons v vs => exact SeqAt.RcNeAt.lists_lengths (PySem.IsL.isList ho) (PySem.IsL.isList hb) (by simp) hu prog w E Q h
end
end Mine
/-! part MK -/
namespace Mine
open PySem PySem.W PyProof.Rows

structure ClsOk (K : Frag) (C fI : Addr) : Prop where
  get : ∀ n : Str, plainGet K C n = true
  dict : hasDictIn K C = true
  none : ∀ k, k < wmax → findIn K (.ref C) (Wn k) = some none
  set : findIn K (.ref C) "__setattr__" = some (some (.builtin "object.__setattr__"))
  over : plainOver K C = true
  mak : makesIn K C = true
  init : findIn K (.ref C) "__init__" = some (some (.ref fI))
  initf : typeIn K (.ref fI) = some (.type "function")

section
variable {prog : Program} {w : World} {cls : Nat → Addr} {h₀ h h' : Heap} {hE : Fz} {ad ad' adE : Ad} {hf hf' hfE : Fz} {σ : Sto} {env : Env} {ρ : Loc} {m m' : Str → Option Value} {oa : Nat → Addr}

/-! fields -/
theorem FRel.find {k : Nat} {a : AV} (hk : k < wmax) : ∀ {fs : List (Nat × AV)} {es : List DictEntry}, FRel prog w ad hf fs es → field k fs = some a → ∃ v, getL (Wn k) es = some (some v) ∧ VRel prog w ad hf a v
  | [], _, _, e => by cases e
  | (j, b) :: r, _, x, e => by
    obtain ⟨en, q, rfl, hj, ⟨t, ht⟩, hv, hr⟩ := x
    unfold field at e
    by_cases z : j = k
    · rw [if_pos z] at e; cases e
      refine ⟨en.val, ?_, hv⟩
      have : en.key.isStr (Wn k) = true := by rw [ht, z]; simp [Value.isStr]
      simp [getL, this]
    · rw [if_neg z] at e
      obtain ⟨v, h1, h2⟩ := FRel.find hk hr e
      refine ⟨v, ?_, h2⟩
      have nm : Wn j ≠ Wn k := fun q => z (Wn_inj hj hk q)
      have n1 : en.key.isStr (Wn k) = false := by rw [ht]; simp [Value.isStr, nm]
      unfold getL at h1 ⊢
      rw [List.find?_cons, n1]
      split at h1
      · rename_i e' he'
        rw [he']; exact h1
      · split at h1 <;> cases h1
theorem FRel.noRef : ∀ {fs : List (Nat × AV)} {es : List DictEntry}, FRel prog w ad hf fs es → es.any (·.refKey) = false
  | [], _, x => by rw [show _ = [] from x]; rfl
  | (j, b) :: r, _, x => by
    obtain ⟨en, q, rfl, hj, ⟨t, ht⟩, hv, hr⟩ := x
    rw [List.any_cons, hr.noRef]
    simp [DictEntry.refKey, ht]
theorem FRel.getSome {fs : List (Nat × AV)} {es : List DictEntry} (x : FRel prog w ad hf fs es) (n : Str) : (getL n es).isSome = true := by
  unfold getL
  split
  · rfl
  · rw [x.noRef]; rfl
theorem FRel.put {k : Nat} {a : AV} {v : Value} {hsh : Int} {t : Tok} (hk : k < wmax) (hv : VRel prog w ad hf a v) : ∀ {fs : List (Nat × AV)} {es : List DictEntry}, FRel prog w ad hf fs es → FRel prog w ad hf (putF k a fs) (putL (Wn k) hsh (.str (Wn k) t) v es)
  | [], _, x => by
    rw [show _ = [] from x]
    exact ⟨_, [], rfl, hk, ⟨t, rfl⟩, hv, rfl⟩
  | (j, b) :: r, _, x => by
    obtain ⟨en, q, rfl, hj, ⟨t', ht⟩, hb, hr⟩ := x
    unfold putF putL
    by_cases z : j = k
    · rw [if_pos z]
      have n1 : en.key.isStr (Wn k) = true := by rw [ht, z]; simp [Value.isStr]
      rw [if_pos n1]
      exact ⟨_, q, rfl, hk, ⟨t', by rw [ht, z]⟩, hv, hr⟩
    · rw [if_neg z]
      have nm : Wn j ≠ Wn k := fun q => z (Wn_inj hj hk q)
      have n1 : ¬ en.key.isStr (Wn k) = true := by rw [ht]; simp [Value.isStr, nm]
      rw [if_neg n1]
      exact ⟨_, _, rfl, hj, ⟨t', ht⟩, hb, FRel.put hk hv hr⟩
theorem FRel.length : ∀ {fs : List (Nat × AV)} {es : List DictEntry}, FRel prog w ad hf fs es → fs.length = es.length
  | [], _, x => by rw [show _ = [] from x]; rfl
  | (j, b) :: r, _, x => by
    obtain ⟨en, q, rfl, hj, _, hb, hr⟩ := x
    rw [List.length_cons, List.length_cons, hr.length]
theorem VRel.handed {a : AV} {v : Value} (x : VRel prog w ad hf a v) : handedIn v = true := by
  cases a <;> rw [VRel] at x
  case none => subst x; rfl
  case bool => subst x; rfl
  case int => obtain ⟨t, rfl⟩ := x; rfl
  case str => obtain ⟨_, t, rfl⟩ := x; rfl
  case tup => obtain ⟨_, _, _, rfl, _⟩ := x; rfl
  case lst => obtain ⟨_, _, _, rfl, _⟩ := x; rfl
  case dct => obtain ⟨_, _, _, rfl, _⟩ := x; rfl
  case obj => obtain ⟨_, _, rfl⟩ := x; rfl

/-! the store grows, the store changes -/
theorem Sit.addObj (S : Sit prog w cls h₀ ad hf σ h) (g : Grow h h') {p : Addr × Addr} {o : AO} (f1 : h.get? p.1 = none) (f2 : h.get? p.2 = none) (ho : ORel prog w cls (ad ++ [p]) hf h' p o) :
    Sit prog w cls h₀ (ad ++ [p]) hf (σ ++ [o]) h' ∧ Ext ad hf h (ad ++ [p]) hf h' := by
  have a1 := S.fresh f1
  have a2 := S.fresh f2
  have S' := S.grow g
  refine ⟨⟨S.base, S'.fro, by simp [S.len], fun i q x hi hx => ?_, fun q hq => ?_, ?_⟩, fun _ _ e => e, fun _ _ _ _ e => e, ⟨[p], rfl, fun q hq => ?_⟩, fun a o e _ => g a o e, fun a o e => ⟨o, g a o e⟩⟩
  · by_cases z : i < ad.length
    · rw [List.getElem?_append_left z] at hi
      rw [List.getElem?_append_left (S.len ▸ z)] at hx
      exact (S'.ob i q x hi hx).mono ⟨[p], rfl⟩ fun _ _ e => e
    · have hl : i < (ad ++ [p]).length := (List.getElem?_eq_some_iff.mp hi).1
      simp at hl
      have : i = ad.length := by omega
      subst this
      rw [List.getElem?_append_right (Nat.le_refl _), Nat.sub_self] at hi
      rw [S.len, List.getElem?_append_right (Nat.le_refl _), Nat.sub_self] at hx
      cases hi; cases hx
      exact ho
  · rcases List.mem_append.mp hq with q' | q'
    · exact S.pr q q'
    · rw [List.mem_singleton.mp q']; exact ⟨a1.1, a2.1⟩
  · rw [List.pairwise_append]
    refine ⟨S.dj, List.pairwise_singleton _ _, fun a ha b hb => ?_⟩
    rw [List.mem_singleton.mp hb]
    exact ⟨Ne.symm (a1.2 a ha).1, Ne.symm (a2.2 a ha).1, Ne.symm (a1.2 a ha).2, Ne.symm (a2.2 a ha).2⟩
  · rw [List.mem_singleton.mp hq]; exact ⟨f1, f2⟩
/-- all is kept but d and L -/
noncomputable def KeepBut (d L : Addr) (h h' : Heap) : Prop := ∀ a o, h.get? a = some o → a ≠ d → a ≠ L → h'.get? a = some o
theorem pair_ne {l : Ad} {i j : Nat} {p q : Addr × Addr} (dj : l.Pairwise fun p q => p.1 ≠ q.1 ∧ p.1 ≠ q.2 ∧ p.2 ≠ q.1 ∧ p.2 ≠ q.2) (hi : l[i]? = some p) (hj : l[j]? = some q) (ne : i ≠ j) : p.1 ≠ q.2 ∧ p.2 ≠ q.2 := by
  obtain ⟨h1, rfl⟩ := List.getElem?_eq_some_iff.mp hi
  obtain ⟨h2, rfl⟩ := List.getElem?_eq_some_iff.mp hj
  have D := List.pairwise_iff_getElem.mp dj
  rcases Nat.lt_or_gt_of_ne ne with z | z
  · have := D i j h1 h2 z; exact ⟨this.2.1, this.2.2.2⟩
  · have := D j i h2 h1 z; exact ⟨Ne.symm this.2.2.1, Ne.symm this.2.2.2⟩
theorem Sit.setObj (S : Sit prog w cls h₀ ad hf σ h) {L : Addr} {i : Nat} {p : Addr × Addr} {o : AO} (hi : ad[i]? = some p) (kb : KeepBut p.2 L h h') (hL : hf L = none ∧ Off ad L) (ho : ORel prog w cls ad hf h' p o) :
    Sit prog w cls h₀ ad hf (σ.set i o) h' := by
  have P := S.pr p (List.mem_of_getElem? hi)
  have ne : ∀ a x, hf a = some x → a ≠ p.2 ∧ a ≠ L := fun a x e => ⟨fun z => (by rw [z, P.2] at e; cases e), fun z => (by rw [z, hL.1] at e; cases e)⟩
  refine ⟨S.base, fun a x e => kb a x (S.fro a x e) (ne a x e).1 (ne a x e).2, by simp [S.len], fun j q x hj hx => ?_, S.pr, S.dj⟩
  by_cases z : i = j
  · subst z
    have hlt : i < σ.length := S.len ▸ (List.getElem?_eq_some_iff.mp hi).1
    rw [List.getElem?_set_self hlt] at hx
    cases hx
    rw [hi] at hj; cases hj
    exact ho
  · rw [List.getElem?_set_ne z] at hx
    have H := S.ob j q x hj hx
    obtain ⟨n1, n2⟩ := pair_ne S.dj hj hi (Ne.symm z)
    have Lq := hL.2 q (List.mem_of_getElem? hj)
    cases x with
    | inst c fs => obtain ⟨x, l, es, n, b1, c1, d⟩ := H; exact ⟨x, l, es, n, kb _ _ b1 n1 (Ne.symm Lq.1), kb _ _ c1 n2 (Ne.symm Lq.2), d⟩
    | mlst l => obtain ⟨x, vs, n, b1, c1⟩ := H; exact ⟨x, vs, n, kb _ _ b1 n1 (Ne.symm Lq.1), c1⟩
theorem ExtF.setObj (X : ExtF adE hfE hE ad hf h) {L d : Addr} {p : Addr × Addr} (hp : p ∈ ad) (hd : d = p.2) (kb : KeepBut d L h h') (hL : hE L = none) (hdk : ∃ o, h'.get? d = some o) : ExtF adE hfE hE ad hf h' := by
  have nL : ∀ a o, hE a = some o → a ≠ L := fun a o e z => by rw [z, hL] at e; cases e
  refine ⟨X.hm, X.hn, X.ap, fun a o e f => kb a o (X.kp a o e f) (fun z => ?_) (nL a o e), fun a o e => ?_⟩
  · obtain ⟨l, rfl, hl⟩ := X.ap
    rcases List.mem_append.mp hp with q | q
    · exact (f p q).2 (z.trans hd)
    · have := (hl p q).2; rw [← hd, ← z, e] at this; cases this
  · obtain ⟨o', e'⟩ := X.ke a o e
    by_cases z : a = d
    · rw [z]; exact hdk
    · exact ⟨o', kb a o' e' z (nL a o e)⟩
theorem Fra.setObj (F : Fra prog w hE env ρ ad hf h m oa) {d : Addr} {p : Addr × Addr} (hp : p ∈ ad) (hd : d = p.2) (kb : KeepBut d env.locals h h') (ns : h'.Ns env.locals m) : Fra prog w hE env ρ ad hf h' m oa := by
  have cellKeep : ∀ x c v, env.cells.lookup x = some c → h.IsCell c v → h'.IsCell c v := fun x c v q ⟨o, z1, z2⟩ =>
    ⟨o, kb _ _ z1 (fun z => ((F.pc x c q).2.1 p hp).2 (z.trans hd)) (F.pc x c q).2.2.1, z2⟩
  refine ⟨F.kind, F.glob, F.blt, ns, fun j u q hj => ?_, fun y hy => ?_, F.pl, fun y c q => ?_, F.cc, F.po, F.oo⟩
  · obtain ⟨v, V, L⟩ := F.vars j u q hj
    refine ⟨v, ⟨V.1, fun z' => ?_⟩, ?_⟩
    · obtain ⟨c, hc, hv⟩ := V.2 z'
      exact ⟨c, hc, cellKeep _ c _ hc hv⟩
    · cases u with
      | val a => exact L
      | own l₁ =>
        obtain ⟨e1, vs', n', q1, z1⟩ := L
        have P := F.po j l₁ q hj
        exact ⟨e1, vs', n', kb _ _ q1 (fun z => (P.2.1 p hp).2 (z.trans hd)) P.2.2.1, z1⟩
      | dead => trivial
  · obtain ⟨c, v', hc, hv⟩ := F.cl y hy
    exact ⟨c, v', hc, cellKeep _ c _ hc hv⟩
  · obtain ⟨a1, b, d, v', z⟩ := F.pc y c q
    exact ⟨a1, b, d, v', cellKeep _ c _ q z⟩
theorem KeepBut.of_same {d L : Addr} (hs : Heap.SameBut d h h') : KeepBut d L h h' := fun a _ e n _ => (hs.2 a n).trans e
end

section
variable {prog : Program} {w : World} {cls : Nat → Addr} {h₀ : Heap} {ad : Ad} {hf : Fz} {σ : Sto} {A : Around} {E : Value → Shared → Prop} {s : Shared} {K : Frag} {C fI : Addr}
theorem get_field {expr : Bool} {k i : Nat} {c : Nat} {fs : List (Nat × AV)} {a : AV} {u : Value} {Q : Value → Shared → Prop} (S : Sit prog w cls h₀ ad hf σ s.heap) (X : K.In s.heap) (ck : ∀ c, ∃ fI, ClsOk K (cls c) fI) (hk : k < wmax)
    (hi : σ[i]? = some (.inst c fs)) (e : field k fs = some a) (hu : VRel prog w ad hf (.obj i) u) (h : PureQ prog w ad hf s a Q) : wpAny (model prog w) A (getAttr u (Wn k) expr) Q E s := by
  rw [VRel] at hu
  obtain ⟨p, hp, rfl⟩ := hu
  obtain ⟨ne, _, es, n, o1, o2, R⟩ := S.ob i p _ hp hi
  obtain ⟨fI, ok⟩ := ck c
  obtain ⟨v, g1, g2⟩ := R.find hk e
  have I : InstAt s.heap p.1 (instObj (cls c) p.2) (cls c) (some (dictOf es n)) := ⟨o1, rfl, rfl, o2⟩
  exact get_value X I (plainGet_of (ok.get (Wn k))).1 (findObj_own ok.dict (ok.none k hk) rfl (by rw [lookIn_dict]; exact g1)) g2.handed (h.now g2 _)

noncomputable def others (h : Heap) (p : Addr → Bool) : List (Addr × Obj) := (List.range h.objs.size).filterMap fun a => if p a then (h.get? a).map (a, ·) else none
theorem others_mem {h : Heap} {p : Addr → Bool} {a : Addr} {o : Obj} : (a, o) ∈ others h p ↔ p a = true ∧ h.get? a = some o := by
  unfold others
  rw [List.mem_filterMap]
  constructor
  · rintro ⟨b, hb, e⟩
    split at e
    · rename_i hp
      obtain ⟨x, hx, e⟩ := Option.map_eq_some_iff.mp e
      cases e
      exact ⟨hp, hx⟩
    · cases e
  · rintro ⟨h1, h2⟩
    exact ⟨a, List.mem_range.mpr (Heap.lt_size h2), by rw [if_pos h1, h2]; rfl⟩
theorem set_inst {L : Addr} {m : Str → Option Value} {p : Addr × Addr} {es : List DictEntry} {n k : Nat} {v : Value} {Q : Unit → Shared → Prop} (X : K.In s.heap) (ok : ClsOk K C fI) (hk : k < wmax) (o1 : s.heap.get? p.1 = some (instObj C p.2)) (o2 : s.heap.get? p.2 = some (dictOf es n))
    (ns : s.heap.Ns L m) (hL : p.2 ≠ L) (hl : (getL (Wn k) es).isSome = true) (hz : ∀ hsh t, (putL (Wn k) hsh (.str (Wn k) t) v es).length ≤ 1000)
    (h : ∀ h' hsh t n' tk, KeepBut p.2 L s.heap h' → h'.Ns L m → h'.get? p.2 = some (dictOf (putL (Wn k) hsh (.str (Wn k) t) v es) n') → Q () { s with heap := h', toks := tk }) :
    wpAny (model prog w) A (setAttr (.ref p.1) (Wn k) v) Q E s := by
  have I : InstAt s.heap p.1 (instObj C p.2) C (some (dictOf es n)) := ⟨o1, rfl, rfl, o2⟩
  have e0 : ∀ a, ({} : Heap).get? a = none := fun a => rfl
  have F : Fr {} L s.heap m := ⟨ns, fun b o e => (by rw [e0] at e; cases e), Nat.zero_le _⟩
  have N : News {} L s.heap (([] : List (Addr × Obj)) ++ (p.2, dictOf es n) :: others s.heap fun a => a != p.2 && a != L) := fun q hq => by
    rw [List.nil_append] at hq
    rcases List.mem_cons.mp hq with rfl | hq
    · exact ⟨o2, hL, e0 _⟩
    · obtain ⟨a, o⟩ := q
      obtain ⟨h1, h2⟩ := others_mem.mp hq
      simp only [Bool.and_eq_true, bne_iff_ne] at h1
      exact ⟨h2, h1.2, e0 _⟩
  refine set_plain X I ok.set (osa_dict (s := { s with toks := s.toks + 1 }) F N X I rfl ok.over (by unfold takerIn; rw [ok.none k hk]; rfl) ok.dict (by rw [lookIn_dict]; exact hl) (fun _ hq => nomatch hq) (fun q hq => ?_) (by rw [putName_dict]) rfl (hz _ _) fun h' F' N' => ?_)
  · obtain ⟨a, o⟩ := q
    obtain ⟨h1, h2⟩ := others_mem.mp hq
    simp only [Bool.and_eq_true, bne_iff_ne] at h1
    exact h1.1
  · rw [List.nil_append] at N'
    refine h h' _ _ _ _ (fun a o e n1 n2 => ?_) F'.ns (N' _ (.head _)).1
    exact (N' (a, o) (.tail _ (others_mem.mpr ⟨by simp [n1, n2], e⟩))).1
theorem set_field {hE : Fz} {adE : Ad} {hfE : Fz} {env : Env} {ρ : Loc} {m : Str → Option Value} {oa : Nat → Addr} {k i c : Nat} {fs : List (Nat × AV)} {a : AV} {u v : Value} {Q : Unit → Shared → Prop} (S : Sit prog w cls h₀ ad hf σ s.heap) (Fa : Fra prog w hE env ρ ad hf s.heap m oa)
    (XE : ExtF adE hfE hE ad hf s.heap) (fr : FreshE hE env) (X : K.In s.heap) (ck : ClsOk K (cls c) fI) (hk : k < wmax) (hi : σ[i]? = some (.inst c fs)) (hlen : (putF k a fs).length ≤ 100) (hu : VRel prog w ad hf (.obj i) u) (hv : VRel prog w ad hf a v)
    (h : ∀ h' tk, Sit prog w cls h₀ ad hf (σ.set i (.inst c (putF k a fs))) h' → Fra prog w hE env ρ ad hf h' m oa → ExtF adE hfE hE ad hf h' → Q () { s with heap := h', toks := tk }) : wpAny (model prog w) A (setAttr u (Wn k) v) Q E s := by
  rw [VRel] at hu
  obtain ⟨p, hp, rfl⟩ := hu
  obtain ⟨ne, _, es, n, o1, o2, R⟩ := S.ob i p _ hp hi
  have hm := List.mem_of_getElem? hp
  have Lp := Fa.pl.2 p hm
  refine set_inst X ck hk o1 o2 Fa.ns (Ne.symm Lp.2) (R.getSome _) (fun hsh t => ?_) fun h' hsh t n' tk kb ns hd => ?_
  · have := (R.put (hsh := hsh) (t := t) hk hv).length
    omega
  · exact h h' tk (S.setObj hp kb Fa.pl ⟨ne, hlen, _, n', kb _ _ o1 ne (Ne.symm Lp.1), hd, R.put hk hv⟩) (Fa.setObj hm rfl kb ns) (XE.setObj hm rfl kb fr.l ⟨_, hd⟩)
theorem make_inst {rest : List Value} {c : Nat} {R : Result → Shared → Prop} (S : Sit prog w cls h₀ ad hf σ s.heap) (X : K.In s.heap) (ok : ClsOk K (cls c) fI)
    (h : ∀ ad' h', Sit prog w cls h₀ ad' hf (σ ++ [.inst c []]) h' → Ext ad hf s.heap ad' hf h' → ∀ x, VRel prog w ad' hf (.obj σ.length) (.ref x) →
      codeAny (model prog w) (A.under (.builtin "type.__call__" ⟨.ref (cls c) :: rest, []⟩)) (.call (.ref fI) ⟨.ref x :: rest, []⟩) (InitBack x R) { s with heap := h' }) :
    codeAny (model prog w) A (.call (.ref (cls c)) ⟨rest, []⟩) R s := by
  obtain ⟨hh, g, d, t, os⟩ := s
  have e1 : ((hh.push emptyDict).push (instObj (cls c) hh.objs.size)).get? (hh.objs.size + 1) = some (instObj (cls c) hh.objs.size) := by
    have := Heap.get?_push_size (hh.push emptyDict) (o := instObj (cls c) hh.objs.size) rfl
    rwa [Heap.size_push] at this
  have e2 : ((hh.push emptyDict).push (instObj (cls c) hh.objs.size)).get? hh.objs.size = some emptyDict := Heap.get?_push_of_some _ (Heap.get?_push_size _ rfl)
  have Z := S.addObj (p := (hh.objs.size + 1, hh.objs.size)) (o := .inst c []) ((Grow.push hh emptyDict).trans (Grow.push _ (instObj (cls c) hh.objs.size))) (Heap.get?_none_of_le (Nat.le_succ _)) (size_none hh)
    ⟨Nat.succ_ne_self _, Nat.zero_le _, [], 0, e1, e2, rfl⟩
  refine make_core (makes_of X ok.mak) (looks_findIn X ok.init) (fun self => bind_fn X self ok.initf) (.inl rfl) (h _ _ Z.1 Z.2 _ ?_)
  rw [VRel]
  exact ⟨(hh.objs.size + 1, hh.objs.size), by rw [← S.len]; simp, rfl⟩
end
end Mine
/-! part ML -/
namespace Mine
open PySem PySem.W PyProof.Rows

noncomputable def gun (g hE : Fz) : Fz := fun a => match g a with
  | some o => some o
  | none => hE a
theorem gun_some {g hE : Fz} {a : Addr} {o : Obj} (h : g a = some o) : gun g hE a = some o := by unfold gun; rw [h]
theorem gun_none {g hE : Fz} {a : Addr} (h : g a = none) : gun g hE a = hE a := by unfold gun; rw [h]
theorem gun_cases {g hE : Fz} {a : Addr} {o : Obj} (h : gun g hE a = some o) : g a = some o ∨ (g a = none ∧ hE a = some o) := by
  unfold gun at h
  split at h
  · rename_i e; cases h; exact .inl e
  · rename_i e; exact .inr ⟨e, h⟩
theorem gun_emp {hE : Fz} : gun (fun _ => none) hE = hE := rfl

section
variable (prog : Program) (w : World) (cls : Nat → Addr) (h₀ : Heap) (adE : Ad) (hfE : Fz) (hE : Fz) (env : Env)
noncomputable def In (ρ : Loc) (σ : Sto) (h : Heap) : Prop := ∃ ad hf m oa, Sit prog w cls h₀ ad hf σ h ∧ Fra prog w hE env ρ ad hf h m oa ∧ ExtF adE hfE hE ad hf h
noncomputable def OutOk (Q : Flow → Shared → Prop) (s : Shared) : Out → Prop
  | .next ρ σ => ∀ h tk, In prog w cls h₀ adE hfE hE env ρ σ h → Q .next { s with heap := h, toks := tk }
  | .ret a σ => ∀ h tk v ρ ad hf m oa, Sit prog w cls h₀ ad hf σ h → Fra prog w hE env ρ ad hf h m oa → ExtF adE hfE hE ad hf h → VRel prog w ad hf a v → Q (.ret v) { s with heap := h, toks := tk }
end
structure Pv (adE : Ad) (hfE hE : Fz) (env : Env) (I : Addr) : Prop where
  a : Off adE I
  b : hfE I = none
  c : hE I = none
  d : env.locals ≠ I
  e : ∀ x c, env.cells.lookup x = some c → c ≠ I
noncomputable def PvG (adE : Ad) (hfE hE : Fz) (env : Env) (g : Fz) : Prop := ∀ a o, g a = some o → Pv adE hfE hE env a

section
variable {prog : Program} {w : World} {cls : Nat → Addr} {h₀ h h' : Heap} {adE : Ad} {hfE hE g g' : Fz} {env : Env} {ρ : Loc} {σ : Sto}
theorem FreshE.gun (fr : FreshE hE env) (pv : PvG adE hfE hE env g) : FreshE (gun g hE) env := by
  refine ⟨?_, fun hf x c e => ?_⟩
  · cases q : g env.locals with
    | none => rw [gun_none q]; exact fr.l
    | some o => exact absurd rfl (pv _ o q).d
  · cases q : g c with
    | none => rw [gun_none q]; exact fr.c hf x c e
    | some o => exact absurd rfl ((pv _ o q).e x c e)
theorem turnC {ad : Ad} {hf : Fz} {m : Str → Option Value} {oa : Nat → Addr} (S : Sit prog w cls h₀ ad hf σ h) (F : Fra prog w (gun g hE) env ρ ad hf h m oa) (E : ExtF adE hfE (gun g hE) ad hf h) (pv : PvG adE hfE hE env g) (keep : ∀ a o, h.get? a = some o → g a = none → h'.get? a = some o) (new : ∀ a o, g' a = some o → h'.get? a = some o ∧ ((∃ o, g a = some o) ∨ h.get? a = none)) :
    Sit prog w cls h₀ ad hf σ h' ∧ Fra prog w (gun g' hE) env ρ ad hf h' m oa ∧ ExtF adE hfE (gun g' hE) ad hf h' ∧ PvG adE hfE hE env g' := by
  -- what a private place is not
  have old : ∀ a o, g a = some o → hf a = none ∧ Off ad a ∧ h.get? a = some o := fun a o q =>
    have p := pv a o q
    have e := gun_some (hE := hE) q
    ⟨E.hn a o e p.a p.b, E.off e p.a, E.kp a o e p.a⟩
  have newP : ∀ a o, g' a = some o → hf a = none ∧ Off ad a ∧ Pv adE hfE hE env a := fun a o q => by
    rcases (new a o q).2 with ⟨o', z⟩ | z
    · exact ⟨(old a o' z).1, (old a o' z).2.1, pv a o' z⟩
    · obtain ⟨f1, f2⟩ := S.fresh z
      have gn : g a = none := by
        cases q' : g a with
        | none => rfl
        | some o' => rw [(old a o' q').2.2] at z; cases z
      refine ⟨f1, f2, fun p hp => ?_, ?_, ?_, ?_, ?_⟩
      · obtain ⟨l, rfl, _⟩ := E.ap
        exact f2 p (List.mem_append_left _ hp)
      · cases q' : hfE a with
        | none => rfl
        | some o' => rw [E.hm a o' q'] at f1; cases f1
      · cases q' : hE a with
        | none => rfl
        | some o' =>
          obtain ⟨o'', e''⟩ := E.ke a o' ((gun_none gn).trans q')
          rw [e''] at z; cases z
      · intro y
        obtain ⟨oL, es, ep, hL, _⟩ := F.ns
        rw [y, z] at hL; cases hL
      · intro x c hc y
        obtain ⟨_, _, _, v, o', ho, _⟩ := F.pc x c hc
        rw [y, z] at ho; cases ho
  have gf : ∀ a o, hf a = some o → g a = none := fun a o q => by
    cases q' : g a with
    | none => rfl
    | some o' => rw [(old a o' q').1] at q; cases q
  have gp : ∀ p ∈ ad, g p.1 = none ∧ g p.2 = none := fun p hp => ⟨by
    cases q' : g p.1 with
    | none => rfl
    | some o' => exact absurd rfl ((old _ o' q').2.1 p hp).1, by
    cases q' : g p.2 with
    | none => rfl
    | some o' => exact absurd rfl ((old _ o' q').2.1 p hp).2⟩
  have S' : Sit prog w cls h₀ ad hf σ h' := by
    refine ⟨S.base, fun a o q => keep a o (S.fro a o q) (gf a o q), S.len, fun i p o e q => ?_, S.pr, S.dj⟩
    have P := gp p (List.mem_of_getElem? e)
    have H := S.ob i p o e q
    cases o with
    | inst c fs => obtain ⟨x, l, es, n, b1, c1, d⟩ := H; exact ⟨x, l, es, n, keep _ _ b1 P.1, keep _ _ c1 P.2, d⟩
    | mlst l => obtain ⟨x, vs, n, b1, c1⟩ := H; exact ⟨x, vs, n, keep _ _ b1 P.1, c1⟩
  have gl : g env.locals = none := by
    cases q' : g env.locals with
    | none => rfl
    | some o' => exact absurd rfl (pv _ o' q').d
  have gc : ∀ x c, env.cells.lookup x = some c → g c = none := fun x c e => by
    cases q' : g c with
    | none => rfl
    | some o' => exact absurd rfl ((pv _ o' q').e x c e)
  have go : ∀ k l, look k ρ = some (.own l) → k < wmax → g (oa k) = none ∧ hE (oa k) = none := fun k l e hk => by
    have z := (F.po k l e hk).2.2.2.2
    cases q' : g (oa k) with
    | none => rw [gun_none q'] at z; exact ⟨rfl, z⟩
    | some o' => rw [gun_some q'] at z; cases z
  have cellKeep : ∀ x c v, env.cells.lookup x = some c → h.IsCell c v → h'.IsCell c v := fun x c v q ⟨o, z1, z2⟩ => ⟨o, keep _ _ z1 (gc x c q), z2⟩
  refine ⟨S', ⟨F.kind, F.glob, F.blt, F.ns.at' fun o e => keep _ _ e gl, fun j u q hj => ?_, fun y hy => ?_, F.pl, fun y c q => ?_, F.cc, fun j l q hj => ?_, F.oo⟩, ⟨E.hm, fun a o q f z => ?_, ?_, fun a o q f => ?_, fun a o q => ?_⟩, fun a o q => (newP a o q).2.2⟩
  · obtain ⟨v, V, L⟩ := F.vars j u q hj
    refine ⟨v, ⟨V.1, fun z' => ?_⟩, ?_⟩
    · obtain ⟨c, hc, hv⟩ := V.2 z'
      exact ⟨c, hc, cellKeep _ c _ hc hv⟩
    · cases u with
      | val a => exact L
      | own l₁ =>
        obtain ⟨e1, vs', n', q1, z1⟩ := L
        exact ⟨e1, vs', n', keep _ _ q1 (go j l₁ q hj).1, z1⟩
      | dead => trivial
  · obtain ⟨c, v', hc, hv⟩ := F.cl y hy
    exact ⟨c, v', hc, cellKeep _ c _ hc hv⟩
  · obtain ⟨a1, b, d, v', z⟩ := F.pc y c q
    exact ⟨a1, b, d, v', cellKeep _ c _ q z⟩
  · obtain ⟨a1, b, d, f, _⟩ := F.po j l q hj
    refine ⟨a1, b, d, f, ?_⟩
    obtain ⟨_, L⟩ := F.vars j _ q hj
    obtain ⟨_, _, vs', n', q1, _⟩ := L
    cases q' : g' (oa j) with
    | none => rw [gun_none q']; exact (go j l q hj).2
    | some o' =>
      rcases (new _ o' q').2 with ⟨o'', z⟩ | z
      · rw [(go j l q hj).1] at z; cases z
      · rw [z] at q1; cases q1
  · rcases gun_cases q with q | ⟨_, q⟩
    · exact (newP a o q).1
    · cases q' : g a with
      | none => exact E.hn a o ((gun_none q').trans q) f z
      | some o' => exact (old a o' q').1
  · obtain ⟨l, e, hl⟩ := E.ap
    refine ⟨l, e, fun p hp => ?_⟩
    have hpa : p ∈ ad := e ▸ List.mem_append_right _ hp
    have one : ∀ a, gun g hE a = none → (∀ o, g' a = some o → False) → gun g' hE a = none := fun a z y => by
      cases q' : g' a with
      | some o => exact (y o q').elim
      | none =>
        rw [gun_none q']
        cases q'' : g a with
        | none => rw [gun_none q''] at z; exact z
        | some o => rw [gun_some q''] at z; cases z
    exact ⟨one _ (hl p hp).1 fun o q => ((newP _ o q).2.1 p hpa).1 rfl, one _ (hl p hp).2 fun o q => ((newP _ o q).2.1 p hpa).2 rfl⟩
  · rcases gun_cases q with q | ⟨_, q⟩
    · exact (new a o q).1
    · cases q' : g a with
      | none => exact keep a o (E.kp a o ((gun_none q').trans q) f) q'
      | some o' => rw [(pv a o' q').c] at q; cases q
  · rcases gun_cases q with q | ⟨_, q⟩
    · exact ⟨o, (new a o q).1⟩
    · cases q' : g a with
      | none =>
        obtain ⟨o', e'⟩ := E.ke a o ((gun_none q').trans q)
        exact ⟨o', keep a o' e' q'⟩
      | some o' => rw [(pv a o' q').c] at q; cases q
theorem In.turn (X : In prog w cls h₀ adE hfE (gun g hE) env ρ σ h) (pv : PvG adE hfE hE env g) (keep : ∀ a o, h.get? a = some o → g a = none → h'.get? a = some o) (new : ∀ a o, g' a = some o → h'.get? a = some o ∧ ((∃ o, g a = some o) ∨ h.get? a = none)) :
    In prog w cls h₀ adE hfE (gun g' hE) env ρ σ h' ∧ PvG adE hfE hE env g' := by
  obtain ⟨ad, hf, m, oa, S, F, E⟩ := X
  obtain ⟨S', F', E', pv'⟩ := turnC S F E pv keep new
  exact ⟨⟨ad, hf, m, oa, S', F', E'⟩, pv'⟩
theorem PvG.emp : PvG adE hfE hE env (fun _ => none) := fun _ _ e => by cases e
theorem In.drop (X : In prog w cls h₀ adE hfE (gun g hE) env ρ σ h) (pv : PvG adE hfE hE env g) (keep : ∀ a o, h.get? a = some o → g a = none → h'.get? a = some o) : In prog w cls h₀ adE hfE hE env ρ σ h' :=
  (X.turn (g' := fun _ => none) pv keep fun _ _ e => by cases e).1
theorem In.held {a : Addr} {o : Obj} (X : In prog w cls h₀ adE hfE (gun g hE) env ρ σ h) (pv : PvG adE hfE hE env g) (e : g a = some o) : h.get? a = some o := by
  obtain ⟨ad, hf, m, oa, S, F, E⟩ := X
  exact E.kp a o (gun_some e) (pv a o e).a

theorem gun_null {a : Addr} (z : gun g hE a = none) : hE a = none := by
  cases q' : g a with
  | none => rw [gun_none q'] at z; exact z
  | some o' => rw [gun_some q'] at z; cases z
theorem gun_over {a : Addr} {o : Obj} (pv : PvG adE hfE hE env g) (q : hE a = some o) : gun g hE a = some o := by
  cases q' : g a with
  | none => rw [gun_none q']; exact q
  | some o' => rw [(pv a o' q').c] at q; cases q
theorem Fra.ungun {ad : Ad} {hf : Fz} {m : Str → Option Value} {oa : Nat → Addr} (F : Fra prog w (gun g hE) env ρ ad hf h m oa) : Fra prog w hE env ρ ad hf h m oa :=
  ⟨F.kind, F.glob, F.blt, F.ns, F.vars, F.cl, F.pl, F.pc, F.cc, fun j l q hj => (fun ⟨a1, b, d, f, z⟩ => ⟨a1, b, d, f, gun_null z⟩) (F.po j l q hj), F.oo⟩
theorem ExtF.ungun {ad : Ad} {hf : Fz} (X : ExtF adE hfE (gun g hE) ad hf h) (pv : PvG adE hfE hE env g) : ExtF adE hfE hE ad hf h :=
  ⟨X.hm, fun a o q => X.hn a o (gun_over pv q), (fun ⟨l, q, hl⟩ => ⟨l, q, fun p hp => ⟨gun_null (hl p hp).1, gun_null (hl p hp).2⟩⟩) X.ap, fun a o q => X.kp a o (gun_over pv q), fun a o q => X.ke a o (gun_over pv q)⟩

/-! loops -/
variable {A : Around} {E : Value → Shared → Prop} {R : Result → Shared → Prop}
noncomputable def ForTurn (prog : Program) (w : World) (cls : Nat → Addr) (h₀ : Heap) (adE : Ad) (hfE hE : Fz) (env : Env) (A : Around) (target : Expr) (it : Value) (items : List AV) (pre : AV → Loc → Option Loc) (St : Nat → Fz → Prop) : Prop :=
  ∀ (i : Nat) (a : AV) (s : Shared) (g : Fz) (ρ ρ' : Loc) (σ : Sto) (Q : Unit → Shared → Prop) (E : Value → Shared → Prop), items[i]? = some a → pre a ρ = some ρ' → St i g → PvG adE hfE hE env g → In prog w cls h₀ adE hfE (gun g hE) env ρ σ s.heap →
    (∀ g' h' tk, St (i + 1) g' → PvG adE hfE hE env g' → In prog w cls h₀ adE hfE (gun g' hE) env ρ' σ h' → Q () { s with heap := h', toks := tk }) →
    wpAny (model prog w) A (pyNext it) (fun r s₁ => ∃ v, r = some v ∧ wpAny (model prog w) A (letOwnedTupleGo target it v) (fun _ s₂ => wpAny (model prog w) A (assign target env v) Q E s₂) E s₁) E s
noncomputable def ForDone (prog : Program) (w : World) (cls : Nat → Addr) (h₀ : Heap) (adE : Ad) (hfE hE : Fz) (env : Env) (A : Around) (it : Value) (n : Nat) (St : Nat → Fz → Prop) : Prop :=
  ∀ (s : Shared) (g : Fz) (ρ : Loc) (σ : Sto) (Q : Option Value → Shared → Prop) (E : Value → Shared → Prop), St n g → PvG adE hfE hE env g → In prog w cls h₀ adE hfE (gun g hE) env ρ σ s.heap →
    (∀ h' tk, In prog w cls h₀ adE hfE hE env ρ σ h' → Q none { s with heap := h', toks := tk }) → wpAny (model prog w) A (pyNext it) Q E s
noncomputable def BodyOk (prog : Program) (w : World) (cls : Nat → Addr) (h₀ : Heap) (env : Env) (A : Around) (fb : Loc → Sto → Option Out) (body : List Stmt) : Prop :=
  ∀ (adE : Ad) (hfE hE : Fz) (ρ : Loc) (σ : Sto) (o : Out) (s : Shared) (Q : Flow → Shared → Prop) (E : Value → Shared → Prop), FreshE hE env → fb ρ σ = some o → In prog w cls h₀ adE hfE hE env ρ σ s.heap →
    OutOk prog w cls h₀ adE hfE hE env Q s o → wpAny (model prog w) A (execs body env) Q E s
theorem for_sound {target : Expr} {it : Value} {body : List Stmt} {items : List AV} {pre : AV → Loc → Option Loc} {fb : Loc → Sto → Option Out} {St : Nat → Fz → Prop} {out : Out} {Q : Flow → Shared → Prop} {s : Shared} (fr : FreshE hE env)
    (turn : ForTurn prog w cls h₀ adE hfE hE env A target it items pre St) (done : ForDone prog w cls h₀ adE hfE hE env A it items.length St) (hb : BodyOk prog w cls h₀ env A fb body)
    (e : forL (fun a ρ σ => (pre a ρ).bind fun ρ => fb ρ σ) items ρ σ = some out) (st : St 0 g) (pv : PvG adE hfE hE env g) (X : In prog w cls h₀ adE hfE (gun g hE) env ρ σ s.heap) (hQ : OutOk prog w cls h₀ adE hfE hE env Q s out) :
    codeAny (model prog w) A (.forLoop target it body [] env) (fun r s' => match r with | .ok f => Q f s' | .error e => E e s') s := by
  refine codeAny_forLoop_any (fun n s' => ∃ i h' tk g ρ σ, s' = { s with heap := h', toks := tk } ∧ n = items.length - i ∧ i ≤ items.length ∧ forL (fun a ρ σ => (pre a ρ).bind fun ρ => fb ρ σ) (items.drop i) ρ σ = some out ∧ St i g ∧ PvG adE hfE hE env g ∧ In prog w cls h₀ adE hfE (gun g hE) env ρ σ h')
    ?_ items.length ⟨0, s.heap, s.toks, g, ρ, σ, rfl, rfl, Nat.zero_le _, e, st, pv, X⟩
  rintro n s' ⟨i, H, tk, g, ρ, σ, rfl, rfl, hi, e, st, pv, X⟩
  by_cases hlt : i < items.length
  · rw [List.drop_eq_getElem_cons hlt, forL] at e
    obtain ⟨o, ho, e⟩ := Option.bind_eq_some_iff.mp e
    obtain ⟨ρ', hρ, ho⟩ := Option.bind_eq_some_iff.mp ho
    refine wpAny_mono (turn i items[i] _ g ρ ρ' σ ?q _ (List.getElem?_eq_getElem hlt) hρ st pv X fun g' h' tk' st' pv' X' => ?t) (fun r s₁ h₁ => ?b) (fun _ _ e => e)
    case b =>
      obtain ⟨v, rfl, h₁⟩ := h₁
      exact h₁
    case t =>
      refine hb _ _ _ _ _ o _ _ _ (fr.gun pv') ho X' ?_
      cases o with
      | next ρ₂ σ₂ =>
        intro h₂ tk₂ X₂
        exact ⟨items.length - (i + 1), by omega, i + 1, h₂, tk₂, g', ρ₂, σ₂, rfl, rfl, hlt, e, st', pv', X₂⟩
      | ret a σ₂ =>
        intro h₂ tk₂ v ρ₂ ad₂ hf₂ m₂ oa₂ S₂ F₂ E₂ V₂
        cases e
        exact hQ h₂ tk₂ v ρ₂ ad₂ hf₂ m₂ oa₂ S₂ F₂.ungun (E₂.ungun pv') V₂
  · have hz : i = items.length := by omega
    subst hz
    rw [List.drop_length, forL] at e
    cases e
    refine done _ g ρ σ _ _ st pv X fun h' tk' X' => wpAny_execs_nil ?_
    exact hQ h' tk' X'
end
end Mine
/-! part MM -/
namespace Mine
open PySem PySem.W PyProof.Rows

noncomputable def okK (env : Env) (k : Nat) : Prop := k < wmax ∧ (env.kindOf (Wn k) = some .local ∨ (env.func.isSome = true ∧ env.kindOf (Wn k) = some .cell))
inductive NamesAre : List Nat → List Expr → Prop
  | nil : NamesAre [] []
  | cons {k ks e p} : NamesAre ks e → NamesAre (k :: ks) (.Name (Wn k) p :: e)
theorem NamesAre.length {ks : List Nat} {e : List Expr} (x : NamesAre ks e) (env : Env) : (assignEach e env).length = ks.length ∧ (assignEach e env).findIdx? (·.1) = none := by
  induction x with
  | nil => exact ⟨rfl, rfl⟩
  | cons _ ih =>
    refine ⟨congrArg (· + 1) ih.1, ?_⟩
    show List.findIdx? (·.1) ((false, _) :: assignEach _ env) = none
    rw [List.findIdx?_cons]
    simp [ih.2]

section
variable {prog : Program} {w : World} {cls : Nat → Addr} {h₀ h h' : Heap} {adE ad : Ad} {hfE hE g g' hf : Fz} {env : Env} {ρ ρ' : Loc} {σ : Sto} {A : Around} {E : Value → Shared → Prop} {s : Shared}

theorem store_all {ks : List Nat} {e : List Expr} (N : NamesAre ks e) : ∀ {l : List AV} {vs : List Value} {ρ ρ' : Loc} {s : Shared} {m : Str → Option Value} {oa : Nat → Addr} {Q : Unit → Shared → Prop}, (∀ k ∈ ks, okK env k) → putAll ks l ρ = some ρ' → VRels prog w ad hf l vs →
    Sit prog w cls h₀ ad hf σ s.heap → Fra prog w hE env ρ ad hf s.heap m oa → ExtF adE hfE hE ad hf s.heap → FreshE hE env →
    (∀ h' tk m' oa', Sit prog w cls h₀ ad hf σ h' → Fra prog w hE env ρ' ad hf h' m' oa' → ExtF adE hfE hE ad hf h' → Q () { s with heap := h', toks := tk }) →
    wpAny (model prog w) A (assignInOrder ((assignEach e env).map (·.2)) vs) Q E s := by
  induction N with
  | nil =>
    intro l vs ρ ρ' s m oa Q _ e V S F X _ h
    cases l with
    | nil => cases e; exact wpAny_pure (h s.heap s.toks m oa S F X)
    | cons _ _ => cases e
  | cons N ih =>
    rename_i k ks e p
    intro l vs ρ ρ' s m oa Q hk e V S F X fr h
    cases l with
    | nil => cases e
    | cons a l =>
      rw [VRels] at V
      obtain ⟨v, us, rfl, V1, V2⟩ := V
      have hk1 := hk k List.mem_cons_self
      show wpAny _ A (do holding us (assign (.Name (Wn k) p) env v); assignInOrder ((assignEach _ env).map (·.2)) us) _ _ _
      refine wpAny_bind (wpAny_holding (wpAny_assign_Name (store_var S F X fr hk1.1 hk1.2 (u := .val a) (a := 0) V1 (fun _ z => by cases z) fun h' tk m' S' F' X' => ?_)))
      exact ih (fun j hj => hk j (List.mem_cons_of_mem _ hj)) e V2 S' F' X' fr fun h'' tk' m'' oa'' S'' F'' X'' => h h'' tk' m'' oa'' S'' F'' X''
theorem unpack_all {ks : List Nat} {e : List Expr} (N : NamesAre ks e) {x1} {p : Pos} {l : List AV} {v : Value} {m : Str → Option Value} {oa : Nat → Addr} {Q : Unit → Shared → Prop} (hh : A.handled = none) (hk : ∀ k ∈ ks, okK env k) (hp : putAll ks l ρ = some ρ')
    (V : VRel prog w ad hf (.tup l) v) (S : Sit prog w cls h₀ ad hf σ s.heap) (F : Fra prog w hE env ρ ad hf s.heap m oa) (X : ExtF adE hfE hE ad hf s.heap) (fr : FreshE hE env)
    (h : ∀ h' tk m' oa', Sit prog w cls h₀ ad hf σ h' → Fra prog w hE env ρ' ad hf h' m' oa' → ExtF adE hfE hE ad hf h' → Q () { s with heap := h', toks := tk }) :
    wpAny (model prog w) A (assign (.Tuple e x1 p) env v) Q E s := by
  obtain ⟨a, vs, rfl, T, R⟩ := hfTup S V
  have len : ∀ {ks : List Nat} {l : List AV} {ρ : Loc}, putAll ks l ρ = some ρ' → ks.length = l.length := by
    intro ks
    induction ks with
    | nil => intro l ρ e; cases l with
      | nil => rfl
      | cons _ _ => cases e
    | cons k ks ih => intro l ρ e; cases l with
      | nil => cases e
      | cons a l => exact congrArg (· + 1) (ih e)
  obtain ⟨n1, n2⟩ := N.length env
  refine wpAny_assign_Tuple hh T (by rw [n1, len hp, R.length]; simp) n2 fun h' hx => ?_
  have g : Grow s.heap h' := Grow.of_ext hx (size_none _)
  exact store_all N hk hp R (S.grow g) (F.ext g.ext) (X.trans g.ext) fr fun h'' tk m' oa' S' F' X' => h h'' tk m' oa' S' F' X'

noncomputable def one (I : Addr) (o : Obj) : Fz := fun a => if a = I then some o else none
theorem one_some {I a : Addr} {o o' : Obj} (h : one I o a = some o') : a = I ∧ o' = o := by
  unfold one at h
  split at h
  · rename_i e; cases h; exact ⟨e, rfl⟩
  · cases h
theorem one_self {I : Addr} {o : Obj} : one I o I = some o := if_pos rfl
theorem one_ne {I a : Addr} {o : Obj} (h : a ≠ I) : one I o a = none := if_neg h
theorem one_null {I a : Addr} {o : Obj} (h : one I o a = none) : a ≠ I := fun e => by rw [e, one_self] at h; cases h

theorem turn1C {I : Addr} {o o' : Obj} {m : Str → Option Value} {oa : Nat → Addr} (S : Sit prog w cls h₀ ad hf σ h) (F : Fra prog w (gun (one I o) hE) env ρ ad hf h m oa) (X : ExtF adE hfE (gun (one I o) hE) ad hf h) (pv : PvG adE hfE hE env (one I o))
    (keep : ∀ a x, a ≠ I → h.get? a = some x → h'.get? a = some x) (e : h'.get? I = some o') : Sit prog w cls h₀ ad hf σ h' ∧ Fra prog w (gun (one I o') hE) env ρ ad hf h' m oa ∧ ExtF adE hfE (gun (one I o') hE) ad hf h' ∧ PvG adE hfE hE env (one I o') :=
  turnC S F X pv (fun a x q z => keep a x (one_null z) q) fun a x q => by obtain ⟨rfl, rfl⟩ := one_some q; exact ⟨e, .inl ⟨_, one_self⟩⟩
theorem In.turn1 {I : Addr} {o o' : Obj} (X : In prog w cls h₀ adE hfE (gun (one I o) hE) env ρ σ h) (pv : PvG adE hfE hE env (one I o)) (keep : ∀ a x, a ≠ I → h.get? a = some x → h'.get? a = some x) (e : h'.get? I = some o') :
    In prog w cls h₀ adE hfE (gun (one I o') hE) env ρ σ h' ∧ PvG adE hfE hE env (one I o') :=
  X.turn pv (fun a x q z => keep a x (one_null z) q) fun a x q => by obtain ⟨rfl, rfl⟩ := one_some q; exact ⟨e, .inl ⟨_, one_self⟩⟩
theorem In.drop1 {I : Addr} {o : Obj} (X : In prog w cls h₀ adE hfE (gun (one I o) hE) env ρ σ h) (pv : PvG adE hfE hE env (one I o)) (keep : ∀ a x, a ≠ I → h.get? a = some x → h'.get? a = some x) : In prog w cls h₀ adE hfE hE env ρ σ h' :=
  X.drop pv fun a x q z => keep a x (one_null z) q
theorem In.add1 {I : Addr} {o : Obj} (X : In prog w cls h₀ adE hfE hE env ρ σ h) (n : h.get? I = none) (gr : Grow h h') (e : h'.get? I = some o) : In prog w cls h₀ adE hfE (gun (one I o) hE) env ρ σ h' ∧ PvG adE hfE hE env (one I o) :=
  In.turn (g := fun _ => none) X PvG.emp (fun a x q _ => gr a x q) fun a x q => by obtain ⟨rfl, rfl⟩ := one_some q; exact ⟨e, .inr n⟩

noncomputable def isIter (T : String) (l : Addr) (i : Nat) (o : Obj) : Prop := o.cls = .type T ∧ o.data = .fields #[.ref l, .int i 0]
theorem store_name {k : Nat} {a : AV} {v : Value} {p : Pos} {m : Str → Option Value} {oa : Nat → Addr} {Q : Unit → Shared → Prop} (hk : okK env k) (V : VRel prog w ad hf a v) (S : Sit prog w cls h₀ ad hf σ s.heap) (F : Fra prog w hE env ρ ad hf s.heap m oa) (X : ExtF adE hfE hE ad hf s.heap) (fr : FreshE hE env)
    (h : ∀ h' tk, In prog w cls h₀ adE hfE hE env (put k (.val a) ρ) σ h' → Q () { s with heap := h', toks := tk }) :
    wpAny (model prog w) A (assign (.Name (Wn k) p) env v) Q E s :=
  wpAny_assign_Name (store_var S F X fr hk.1 hk.2 (u := .val a) (a := 0) V (fun _ z => by cases z) fun h' tk m' S' F' X' => h h' tk ⟨ad, hf, m', _, S', F', X'⟩)
noncomputable def preN (k : Nat) : AV → Loc → Option Loc := fun a ρ => some (put k (.val a) ρ)
noncomputable def preT (ks : List Nat) : AV → Loc → Option Loc := fun a ρ => match a with
  | .tup l => putAll ks l ρ
  | _ => none
/-- the sequence that a loop walks, at the loop's base -/
noncomputable def SeqAtB (prog : Program) (w : World) (adE : Ad) (hfE : Fz) (T : String) (l : Addr) (items : List AV) : Prop := ∃ vs n, hfE l = some { cls := .type T, data := .seq (List.toArray vs) n } ∧ VRels prog w adE hfE items vs
theorem SeqAtB.now {T : String} {l : Addr} {items : List AV} (B : SeqAtB prog w adE hfE T l items) (S : Sit prog w cls h₀ ad hf σ h) (X : ExtF adE hfE hE ad hf h) :
    ∃ vs n, h.get? l = some { cls := .type T, data := .seq (List.toArray vs) n } ∧ VRels prog w ad hf items vs := by
  obtain ⟨vs, n, e, R⟩ := B
  exact ⟨vs, n, S.fro _ _ (X.hm _ _ e), R.mono X.pre X.hm⟩

theorem next_list {I l : Addr} {items : List AV} {i : Nat} {o : Obj} {m : Str → Option Value} {oa : Nat → Addr} {Q : Value → Shared → Prop} (B : SeqAtB prog w adE hfE "list" l items) (hi : isIter "list_iterator" l i o) (pv : PvG adE hfE hE env (one I o)) {a : AV} (ha : items[i]? = some a)
    (S : Sit prog w cls h₀ ad hf σ s.heap) (F : Fra prog w (gun (one I o) hE) env ρ ad hf s.heap m oa) (X : ExtF adE hfE (gun (one I o) hE) ad hf s.heap)
    (h : ∀ v h' o', isIter "list_iterator" l (i + 1) o' → PvG adE hfE hE env (one I o') → Sit prog w cls h₀ ad hf σ h' → Fra prog w (gun (one I o') hE) env ρ ad hf h' m oa → ExtF adE hfE (gun (one I o') hE) ad hf h' → VRel prog w ad hf a v → (∀ a x, a ≠ I → s.heap.get? a = some x → h'.get? a = some x) → h'.IsListIter I l (i + 1) → Q v { s with heap := h' }) :
    wpAny (model prog w) A (pyNext (.ref I)) (fun r s₁ => ∃ v, r = some v ∧ Q v s₁) E s := by
  have held : s.heap.get? I = some o := X.kp I o (gun_some one_self) (pv I o one_self).a
  obtain ⟨vs, n, hl, R⟩ := B.now S X
  obtain ⟨v, hv, V⟩ := R.get ha
  refine wpAny_pyNext_list_item (i := i) ⟨o, held, hi.1, hi.2⟩ (PySem.IsL.isList hl) (x := v) (by simpa using hv) fun h' hit hs => ⟨v, rfl, ?_⟩
  obtain ⟨o', e1, e2, e3⟩ := id hit
  have keep : ∀ a x, a ≠ I → s.heap.get? a = some x → h'.get? a = some x := fun a x ne q => (hs.2 a ne).trans q
  obtain ⟨S', F', X', pv'⟩ := turn1C (o' := o') S F X pv keep e1
  exact h v h' o' ⟨e2, e3⟩ pv' S' F' X' V keep hit
theorem next_tuple {I l : Addr} {items : List AV} {i : Nat} {o : Obj} {m : Str → Option Value} {oa : Nat → Addr} {Q : Value → Shared → Prop} (B : SeqAtB prog w adE hfE "tuple" l items) (hi : isIter "tuple_iterator" l i o) (pv : PvG adE hfE hE env (one I o)) {a : AV} (ha : items[i]? = some a)
    (S : Sit prog w cls h₀ ad hf σ s.heap) (F : Fra prog w (gun (one I o) hE) env ρ ad hf s.heap m oa) (X : ExtF adE hfE (gun (one I o) hE) ad hf s.heap)
    (h : ∀ v h' o', isIter "tuple_iterator" l (i + 1) o' → PvG adE hfE hE env (one I o') → Sit prog w cls h₀ ad hf σ h' → Fra prog w (gun (one I o') hE) env ρ ad hf h' m oa → ExtF adE hfE (gun (one I o') hE) ad hf h' → VRel prog w ad hf a v → (∀ a x, a ≠ I → s.heap.get? a = some x → h'.get? a = some x) → Q v { s with heap := h' }) :
    wpAny (model prog w) A (pyNext (.ref I)) (fun r s₁ => ∃ v, r = some v ∧ Q v s₁) E s := by
  have held : s.heap.get? I = some o := X.kp I o (gun_some one_self) (pv I o one_self).a
  obtain ⟨vs, n, hl, R⟩ := B.now S X
  obtain ⟨v, hv, V⟩ := R.get ha
  refine wpAny_pyNext_tuple_item (i := i) ⟨o, held, hi.1, hi.2⟩ ⟨_, hl, rfl, n, rfl⟩ (x := v) (by simpa using hv) fun h' hit hs => ⟨v, rfl, ?_⟩
  obtain ⟨o', e1, e2, e3⟩ := id hit
  have keep : ∀ a x, a ≠ I → s.heap.get? a = some x → h'.get? a = some x := fun a x ne q => (hs.2 a ne).trans q
  obtain ⟨S', F', X', pv'⟩ := turn1C (o' := o') S F X pv keep e1
  exact h v h' o' ⟨e2, e3⟩ pv' S' F' X' V keep
theorem done_list {I l : Addr} {items : List AV} (hh : A.handled = none) (B : SeqAtB prog w adE hfE "list" l items) : ForDone prog w cls h₀ adE hfE hE env A (.ref I) items.length (fun i g => ∃ o, isIter "list_iterator" l i o ∧ g = one I o) := by
  rintro s g ρ σ Q E ⟨o, hi, rfl⟩ pv X h
  have held := In.held X pv one_self
  obtain ⟨ad, hf, m, oa, S, F, E'⟩ := id X
  obtain ⟨vs, n, hl, R⟩ := B.now S E'
  exact wpAny_pyNext_list_end hh (i := items.length) ⟨o, held, hi.1, hi.2⟩ (PySem.IsL.isList hl) (by rw [R.length]; simp) fun h' hx => h h' s.toks (X.drop1 pv fun a x ne q => hx a x ne q)
theorem done_tuple {I l : Addr} {items : List AV} (hh : A.handled = none) (B : SeqAtB prog w adE hfE "tuple" l items) : ForDone prog w cls h₀ adE hfE hE env A (.ref I) items.length (fun i g => ∃ o, isIter "tuple_iterator" l i o ∧ g = one I o) := by
  rintro s g ρ σ Q E ⟨o, hi, rfl⟩ pv X h
  have held := In.held X pv one_self
  obtain ⟨ad, hf, m, oa, S, F, E'⟩ := id X
  obtain ⟨vs, n, hl, R⟩ := B.now S E'
  exact wpAny_pyNext_tuple_end hh (i := items.length) ⟨o, held, hi.1, hi.2⟩ ⟨_, hl, rfl, n, rfl⟩ (by rw [R.length]; simp) fun h' hx => h h' s.toks (X.drop1 pv fun a x ne q => hx a x ne q)
theorem turn_list_name {I l : Addr} {items : List AV} {k : Nat} {p : Pos} (fr : FreshE hE env) (hk : okK env k) (B : SeqAtB prog w adE hfE "list" l items) :
    ForTurn prog w cls h₀ adE hfE hE env A (.Name (Wn k) p) (.ref I) items (preN k) (fun i g => ∃ o, isIter "list_iterator" l i o ∧ g = one I o) := by
  rintro i a s g ρ ρ' σ Q E ha hp ⟨o, hi, rfl⟩ pv X h
  cases hp
  obtain ⟨ad, hf, m, oa, S, F, E₀⟩ := X
  refine next_list B hi pv ha S F E₀ fun v h' o' hi' pv' S' F' E' V' _ _ => wpAny_pure ?_
  exact store_name hk V' S' F' E' (fr.gun pv') fun h'' tk X'' => h _ h'' tk ⟨o', hi', rfl⟩ pv' X''
theorem turn_tuple_name {I l : Addr} {items : List AV} {k : Nat} {p : Pos} (fr : FreshE hE env) (hk : okK env k) (B : SeqAtB prog w adE hfE "tuple" l items) :
    ForTurn prog w cls h₀ adE hfE hE env A (.Name (Wn k) p) (.ref I) items (preN k) (fun i g => ∃ o, isIter "tuple_iterator" l i o ∧ g = one I o) := by
  rintro i a s g ρ ρ' σ Q E ha hp ⟨o, hi, rfl⟩ pv X h
  cases hp
  obtain ⟨ad, hf, m, oa, S, F, E₀⟩ := X
  refine next_tuple B hi pv ha S F E₀ fun v h' o' hi' pv' S' F' E' V' _ => wpAny_pure ?_
  exact store_name hk V' S' F' E' (fr.gun pv') fun h'' tk X'' => h _ h'' tk ⟨o', hi', rfl⟩ pv' X''
theorem turn_list_tup {I l : Addr} {items : List AV} {ks : List Nat} {e : List Expr} {x1} {p : Pos} (hh : A.handled = none) (N : NamesAre ks e) (fr : FreshE hE env) (hk : ∀ k ∈ ks, okK env k) (B : SeqAtB prog w adE hfE "list" l items) :
    ForTurn prog w cls h₀ adE hfE hE env A (.Tuple e x1 p) (.ref I) items (preT ks) (fun i g => ∃ o, isIter "list_iterator" l i o ∧ g = one I o) := by
  rintro i a s g ρ ρ' σ Q E ha hp ⟨o, hi, rfl⟩ pv X h
  cases a with
  | tup t =>
    obtain ⟨ad, hf, m, oa, S, F, E₀⟩ := X
    refine next_list B hi pv ha S F E₀ fun v h' o' hi' pv' S' F' E' V' _ hit => ?_
    obtain ⟨a, vs, rfl, T, R⟩ := hfTup (s := { s with heap := h' }) S' V'
    refine wpAny_letOwnedTupleGo_listiter hit ?_
    exact unpack_all N hh hk hp V' S' F' E' (fr.gun pv') fun h'' tk m' oa' S'' F'' E'' => h _ h'' tk ⟨o', hi', rfl⟩ pv' ⟨ad, hf, m', oa', S'', F'', E''⟩
  | _ => cases hp
end
end Mine
/-! part MN -/
namespace Mine
open PySem PySem.W PyProof.Rows

section
variable {prog : Program} {w : World} {cls : Nat → Addr} {h₀ h h' : Heap} {adE ad : Ad} {hfE hE g g' hf : Fz} {env : Env} {ρ ρ' : Loc} {σ : Sto} {A : Around} {E : Value → Shared → Prop} {s : Shared}

/-! range -/
noncomputable def rObj (x left : Int) : Obj := { cls := .type "range_iterator", data := .fields #[rawInt x, rawInt left, rawInt 1] }
theorem rangeL_get {n i : Nat} {a : AV} (h : (rangeL n)[i]? = some a) : i < n ∧ a = .int i := by
  unfold rangeL at h
  rw [List.getElem?_map] at h
  obtain ⟨j, hj, rfl⟩ := Option.map_eq_some_iff.mp h
  obtain ⟨h1, h2⟩ := List.getElem?_eq_some_iff.mp hj
  simp at h1 h2
  exact ⟨h1, by rw [← h2]⟩
theorem turn_range {I : Addr} {n k : Nat} {p : Pos} (fr : FreshE hE env) (hk : okK env k) :
    ForTurn prog w cls h₀ adE hfE hE env A (.Name (Wn k) p) (.ref I) (rangeL n) (preN k) (fun i g => g = one I (rObj i ((n : Int) - i))) := by
  rintro i a s g ρ ρ' σ Q E ha hp rfl pv X h
  cases hp
  obtain ⟨hi, rfl⟩ := rangeL_get ha
  have held := In.held X pv one_self
  refine wpAny_pyNext_range_item (x := i) (left := (n : Int) - i) (step := 1) held (by omega) fun h' hit hs => ⟨_, rfl, wpAny_pure ?_⟩
  have e1 : h'.get? I = some (rObj ((i + 1 : Nat) : Int) ((n : Int) - ((i + 1 : Nat) : Int))) := by
    have e2 : ((i + 1 : Nat) : Int) = (i : Int) + 1 := by omega
    have e3 : (n : Int) - ((i : Int) + 1) = (n : Int) - i - 1 := by omega
    rw [e2, e3]; exact hit
  obtain ⟨X', pv'⟩ := X.turn1 pv (fun a x ne q => (hs.2 a ne).trans q) e1
  obtain ⟨ad', hf', m', oa', S', F', E''⟩ := id X'
  exact store_name (a := .int i) hk (by rw [VRel]; exact ⟨_, rfl⟩) S' F' E'' (fr.gun pv') fun h'' tk X'' => h _ h'' tk rfl pv' X''
theorem done_range {I : Addr} {n : Nat} (hh : A.handled = none) : ForDone prog w cls h₀ adE hfE hE env A (.ref I) (rangeL n).length (fun i g => g = one I (rObj i ((n : Int) - i))) := by
  rintro s g ρ σ Q E rfl pv X h
  have held := In.held X pv one_self
  have hl : (rangeL n).length = n := by simp [rangeL]
  exact wpAny_pyNext_range_end hh held (by rw [hl]; omega) fun h' hx => h h' s.toks (X.drop1 pv fun a x ne q => hx a x ne q)

/-! enumerate -/
noncomputable def eObj (it : Addr) (i : Int) (old : Value) : Obj := { cls := .type "enumerate", data := .fields #[.none, .bool false, .ref it, rawInt i, .none, old] }
theorem enumL_get : ∀ {L : List AV} {j i : Nat} {a : AV}, (enumL j L)[i]? = some a → ∃ b, L[i]? = some b ∧ a = .tup [.int ((j + i : Nat) : Int), b]
  | [], j, i, a, h => by cases h
  | b :: L, j, 0, a, h => by cases h; exact ⟨b, rfl, rfl⟩
  | b :: L, j, i + 1, a, h => by
    obtain ⟨c, h1, h2⟩ := enumL_get (L := L) (j := j + 1) (i := i) h
    refine ⟨c, h1, ?_⟩
    rw [h2, show j + 1 + i = j + (i + 1) by omega]
theorem enumL_length : ∀ (L : List AV) (j : Nat), (enumL j L).length = L.length
  | [], _ => rfl
  | _ :: L, j => congrArg (· + 1) (enumL_length L (j + 1))
noncomputable def enumSt (e it l : Addr) (i : Nat) (g : Fz) : Prop := ∃ old oi, isIter "list_iterator" l i oi ∧ g = gun (one e (eObj it i old)) (one it oi)
theorem enum_null {e it a : Addr} {oe oi : Obj} (h : gun (one e oe) (one it oi) a = none) : a ≠ e ∧ a ≠ it := by
  have h1 := gun_null h
  refine ⟨fun z => ?_, one_null h1⟩
  rw [z, gun_some one_self] at h; cases h
theorem enum_e {e it : Addr} {oe oi : Obj} : gun (one e oe) (one it oi) e = some oe := gun_some one_self
theorem enum_it {e it : Addr} {oe oi : Obj} (hne : e ≠ it) : gun (one e oe) (one it oi) it = some oi := by rw [gun_none (one_ne (Ne.symm hne)), one_self]
theorem In.turn2 {e it : Addr} {oe oi oe' oi' : Obj} (hne : e ≠ it) (X : In prog w cls h₀ adE hfE (gun (gun (one e oe) (one it oi)) hE) env ρ σ h) (pv : PvG adE hfE hE env (gun (one e oe) (one it oi))) (keep : ∀ a x, a ≠ e → a ≠ it → h.get? a = some x → h'.get? a = some x) (e1 : h'.get? e = some oe') (e2 : h'.get? it = some oi') :
    In prog w cls h₀ adE hfE (gun (gun (one e oe') (one it oi')) hE) env ρ σ h' ∧ PvG adE hfE hE env (gun (one e oe') (one it oi')) :=
  X.turn pv (fun a x q z => keep a x (enum_null z).1 (enum_null z).2 q) fun a x q => by
    rcases gun_cases q with q | ⟨_, q⟩
    · obtain ⟨rfl, rfl⟩ := one_some q; exact ⟨e1, .inl ⟨_, enum_e⟩⟩
    · obtain ⟨rfl, rfl⟩ := one_some q; exact ⟨e2, .inl ⟨_, enum_it hne⟩⟩
theorem turn_enum {e it l : Addr} {items : List AV} {ks : List Nat} {ns : List Expr} {x1} {p : Pos} (hh : A.handled = none) (hne : e ≠ it) (N : NamesAre ks ns) (fr : FreshE hE env) (hk : ∀ k ∈ ks, okK env k) (B : SeqAtB prog w adE hfE "list" l items) :
    ForTurn prog w cls h₀ adE hfE hE env A (.Tuple ns x1 p) (.ref e) (enumL 0 items) (preT ks) (enumSt e it l) := by
  rintro i a s g ρ ρ' σ Q E ha hp ⟨old, oi, hi, rfl⟩ pv X h
  obtain ⟨b, hb, rfl⟩ := enumL_get ha
  have he := In.held X pv enum_e
  have hit := In.held X pv (enum_it hne)
  obtain ⟨ad, hf, m, oa, S, F, E'⟩ := id X
  obtain ⟨vs, n, hl, R⟩ := B.now S E'
  obtain ⟨v, hv, V⟩ := R.get hb
  have hlt : e < s.heap.objs.size := Heap.lt_size he
  refine wpAny_pyNext_enum_item (i := i) (old := old) he ⟨oi, hit, hi.1, hi.2⟩ (PySem.IsL.isList hl) (x := v) (by simpa using hv) hne fun h₁ heo hit₁ ht₁ hz₁ hk₁ => ⟨_, rfl, ?_⟩
  refine wpAny_letOwnedTupleGo_enum heo fun h₂ he₂ hs₂ => ?_
  have hs₂ : Heap.SameBut e h₁ h₂ := hs₂
  obtain ⟨oi', j1, j2, j3⟩ := id hit₁
  have D2 : h₂.get? s.heap.objs.size = some { cls := .type "tuple", data := .seq #[.int i s.toks, v] } := (hs₂.2 _ (Nat.ne_of_gt hlt)).trans ht₁
  obtain ⟨X', pv'⟩ := X.turn2 (h' := h₂) (oe' := eObj it ((i + 1 : Nat) : Int) v) (oi' := oi') hne pv (fun a x n1 n2 q => (hs₂.2 a n1).trans (hk₁ a x n1 n2 q)) he₂ ((hs₂.2 _ (Ne.symm hne)).trans j1)
  obtain ⟨ad', hf', m', oa', S', F', E''⟩ := id X'
  obtain ⟨vs', n', hl', R'⟩ := B.now S' E''
  obtain ⟨v', hv', V'⟩ := R'.get hb
  have hl2 : h₂.get? l = some { cls := .type "list", data := .seq (List.toArray vs) n } := by
    obtain ⟨vs₀, n₀, q, _⟩ := B
    have n1 : l ≠ e := fun z => by have := (pv e _ enum_e).b; rw [z, this] at q; cases q
    have n2 : l ≠ it := fun z => by have := (pv it _ (enum_it hne)).b; rw [z, this] at q; cases q
    exact (hs₂.2 _ n1).trans (hk₁ _ _ n1 n2 hl)
  have e5 : vs' = vs := by
    rw [hl'] at hl2
    have := congrArg Obj.data (Option.some.inj hl2)
    simp at this
    exact this.1
  rw [e5, hv] at hv'
  cases hv'
  have len : ks.length = 2 := by
    revert hp
    rcases ks with _ | ⟨k1, _ | ⟨k2, _ | ⟨k3, ks⟩⟩⟩ <;> intro hp <;> first | rfl | cases hp
  obtain ⟨n1, n2⟩ := N.length env
  refine wpAny_assign_Tuple hh ⟨_, D2, rfl, _, rfl⟩ (by rw [n1, len]; rfl) n2 fun h₃ hx => ?_
  have gr : Grow h₂ h₃ := Grow.of_ext hx (size_none _)
  refine store_all N hk hp (VRels.cons (a := .int ((0 + i : Nat) : Int)) (by rw [VRel]; exact ⟨s.toks, by rw [Nat.zero_add]⟩) (VRels.one V')) (S'.grow gr) (F'.ext gr.ext) (E''.trans gr.ext) (fr.gun pv') fun h'' tk m'' oa'' S'' F'' E₃ => ?_
  exact h _ h'' tk ⟨v, oi', ⟨j2, j3⟩, rfl⟩ pv' ⟨ad', hf', m'', oa'', S'', F'', E₃⟩
theorem done_enum {e it l : Addr} {items : List AV} (hh : A.handled = none) (hne : e ≠ it) (B : SeqAtB prog w adE hfE "list" l items) : ForDone prog w cls h₀ adE hfE hE env A (.ref e) (enumL 0 items).length (enumSt e it l) := by
  rintro s g ρ σ Q E ⟨old, oi, hi, rfl⟩ pv X h
  rw [enumL_length] at *
  have he := In.held X pv enum_e
  have hit := In.held X pv (enum_it hne)
  obtain ⟨ad, hf, m, oa, S, F, E'⟩ := id X
  obtain ⟨vs, n, hl, R⟩ := B.now S E'
  exact wpAny_pyNext_enum_end hh he ⟨oi, hit, hi.1, hi.2⟩ (PySem.IsL.isList hl) (by rw [R.length]; simp) fun h' hx => h h' s.toks (X.drop pv fun a x q z => hx a x (enum_null z).2 q)

/-! while -/
noncomputable def TestOk (prog : Program) (w : World) (cls : Nat → Addr) (h₀ : Heap) (env : Env) (A : Around) (fc : Loc → Sto → Option (Bool × Sto)) (test : Expr) : Prop :=
  ∀ (adE : Ad) (hfE hE : Fz) (ρ : Loc) (σ σ' : Sto) (b : Bool) (s : Shared) (Q : Bool → Shared → Prop) (E : Value → Shared → Prop), FreshE hE env → fc ρ σ = some (b, σ') → In prog w cls h₀ adE hfE hE env ρ σ s.heap →
    (∀ h tk, In prog w cls h₀ adE hfE hE env ρ σ' h → Q b { s with heap := h, toks := tk }) → wpAny (model prog w) A (isTrue test env (eval test env)) Q E s
theorem while_sound {test : Expr} {body : List Stmt} {fc : Loc → Sto → Option (Bool × Sto)} {fb : Loc → Sto → Option Out} {out : Out} {fuel : Nat} {Q : Flow → Shared → Prop} (fr : FreshE hE env)
    (ht : TestOk prog w cls h₀ env A fc test) (hb : BodyOk prog w cls h₀ env A fb body)
    (e : whileL fc fb fuel ρ σ = some out) (X : In prog w cls h₀ adE hfE hE env ρ σ s.heap) (hQ : OutOk prog w cls h₀ adE hfE hE env Q s out) :
    codeAny (model prog w) A (.whileLoop test body [] env) (fun r s' => match r with | .ok f => Q f s' | .error e => E e s') s := by
  refine codeAny_whileLoop (fun n s' => ∃ h' tk ρ σ, s' = { s with heap := h', toks := tk } ∧ whileL fc fb n ρ σ = some out ∧ In prog w cls h₀ adE hfE hE env ρ σ h')
    ?_ fuel ⟨s.heap, s.toks, ρ, σ, rfl, e, X⟩
  rintro n s' ⟨H, tk, ρ, σ, rfl, e, X⟩
  cases n with
  | zero => cases e
  | succ n =>
    rw [whileL] at e
    obtain ⟨⟨b, σ'⟩, hb', e⟩ := Option.bind_eq_some_iff.mp e
    refine ht _ _ _ _ _ _ _ _ _ _ fr hb' X fun h' tk' X' => ?_
    cases b with
    | true =>
      simp only [if_true] at e ⊢
      obtain ⟨o, ho, e⟩ := Option.bind_eq_some_iff.mp e
      refine hb _ _ _ _ _ o _ _ _ fr ho X' ?_
      cases o with
      | next ρ₂ σ₂ => exact fun h₂ tk₂ X₂ => ⟨n, Nat.lt_succ_self _, h₂, tk₂, ρ₂, σ₂, rfl, e, X₂⟩
      | ret a σ₂ =>
        intro h₂ tk₂ v ρ₂ ad₂ hf₂ m₂ oa₂ S₂ F₂ E₂ V₂
        cases e
        exact hQ h₂ tk₂ v ρ₂ ad₂ hf₂ m₂ oa₂ S₂ F₂ E₂ V₂
    | false =>
      simp only [Bool.false_eq_true, if_false] at e ⊢
      cases e
      exact wpAny_execs_nil (hQ h' tk' X')
end
end Mine
/-! part MO -/
namespace Mine
open PySem PySem.W PyProof.Rows

noncomputable def sN : Bool → String
  | true => "list" | false => "tuple"
noncomputable def iN : Bool → String
  | true => "list_iterator" | false => "tuple_iterator"
noncomputable def iObj (b : Bool) (l : Addr) (i : Nat) : Obj := { cls := .type (iN b), data := .fields #[.ref l, .int i 0] }
theorem look_valsOf (k : Nat) : ∀ ρ : Loc, look k (valsOf ρ) = (look k ρ).map kill
  | [] => rfl
  | (j, u) :: r => by
    show (if j = k then some (kill u) else look k (valsOf r)) = (if j = k then some u else look k r).map kill
    by_cases h : j = k
    · rw [if_pos h, if_pos h]; rfl
    · rw [if_neg h, if_neg h]; exact look_valsOf k r
noncomputable def del (t : Nat) : Loc → Loc
  | [] => []
  | (j, u) :: r => if j = t then del t r else (j, u) :: del t r
theorem look_del (k t : Nat) : ∀ ρ : Loc, look k (del t ρ) = if k = t then none else look k ρ
  | [] => by simp [del, look]
  | (j, u) :: r => by
    unfold del
    by_cases h : j = t
    · rw [if_pos h, look_del k t r]
      by_cases q : k = t
      · rw [if_pos q, if_pos q]
      · rw [if_neg q, if_neg q]
        show _ = if j = k then some u else look k r
        rw [if_neg (fun z => q (z.symm.trans h))]
    · rw [if_neg h]
      unfold look
      by_cases q : j = k
      · rw [if_pos q, if_pos q, if_neg (fun z => h (q.trans z))]
      · rw [if_neg q, if_neg q, look_del k t r]

section
variable (prog : Program) (w : World) (cls : Nat → Addr) (h₀ : Heap) (env : Env) (A : Around)
noncomputable def XOk (f : Loc → Sto → Option (AV × Sto)) (e : Expr) : Prop :=
  ∀ (hE : Fz) (ρ : Loc) (σ σ' : Sto) (a : AV) (ad : Ad) (hf : Fz) (m : Str → Option Value) (oa : Nat → Addr) (s : Shared) (Q : Value → Shared → Prop) (E : Value → Shared → Prop), f ρ σ = some (a, σ') → Sit prog w cls h₀ ad hf σ s.heap → Fra prog w hE env ρ ad hf s.heap m oa →
    (∀ v h' tk ad' hf', Sit prog w cls h₀ ad' hf' σ' h' → Ext ad hf s.heap ad' hf' h' → VRel prog w ad' hf' a v → Q v { s with heap := h', toks := tk }) → wpAny (model prog w) A (eval e env) Q E s
noncomputable def BOk (f : Loc → Sto → Option (Bool × Sto)) (t : Sem Bool) : Prop :=
  ∀ (hE : Fz) (ρ : Loc) (σ σ' : Sto) (b : Bool) (ad : Ad) (hf : Fz) (m : Str → Option Value) (oa : Nat → Addr) (s : Shared) (Q : Bool → Shared → Prop) (E : Value → Shared → Prop), f ρ σ = some (b, σ') → Sit prog w cls h₀ ad hf σ s.heap → Fra prog w hE env ρ ad hf s.heap m oa →
    (∀ h' tk ad' hf', Sit prog w cls h₀ ad' hf' σ' h' → Ext ad hf s.heap ad' hf' h' → Q b { s with heap := h', toks := tk }) → wpAny (model prog w) A t Q E s
end
noncomputable abbrev testsOf (ifs : List Expr) (env : Env) : Sem Bool := forIn ifs true fun c r => if r = true then do let ok ← isTrue c env (eval c env); pure (ForInStep.yield ok) else pure (ForInStep.yield r)

section
variable {prog : Program} {w : World} {cls : Nat → Addr} {h₀ h h' : Heap} {adE ad : Ad} {hfE hE g g' hf : Fz} {env : Env} {ρ ρ' : Loc} {σ σ' : Sto} {A : Around} {E : Value → Shared → Prop} {s : Shared}

theorem hfSeq {a : AV} {L : List AV} {v : Value} (e : items a = some L) (V : VRel prog w ad hf a v) : ∃ b l, v = .ref l ∧ SeqAtB prog w ad hf (sN b) l L := by
  cases a with
  | tup l => cases e; rw [VRel] at V; obtain ⟨a, vs, n, rfl, q, R⟩ := V; exact ⟨false, a, rfl, vs, n, q, R⟩
  | lst l => cases e; rw [VRel] at V; obtain ⟨a, vs, n, rfl, q, R⟩ := V; exact ⟨true, a, rfl, vs, n, q, R⟩
  | _ => cases e
theorem iter_seq {b : Bool} {l : Addr} {vs : List Value} {n : Nat} {Q : Value → Shared → Prop} (e : s.heap.get? l = some { cls := .type (sN b), data := .seq (List.toArray vs) n }) (h : Q (.ref s.heap.objs.size) { s with heap := s.heap.push (iObj b l 0) }) :
    wpAny (model prog w) A (pyIter (.ref l)) Q E s := by
  cases b with
  | true => exact wpAny_pyIter_list (PySem.IsL.isList e) h
  | false => exact wpAny_pyIter_tuple ⟨_, e, rfl, n, rfl⟩ h
theorem self_seq {b : Bool} {I l : Addr} {i : Nat} {o : Obj} {Q : Value → Shared → Prop} (e : s.heap.get? I = some o) (hi : isIter (iN b) l i o) (h : Q (.ref I) s) : wpAny (model prog w) A (pyIter (.ref I)) Q E s := by
  cases b with
  | true => exact wpAny_pyIter_listiter ⟨o, e, hi.1, hi.2⟩ h
  | false => exact wpAny_pyIter_tupleiter ⟨o, e, hi.1, hi.2⟩ h
theorem next_seq {b : Bool} {I l : Addr} {items : List AV} {i : Nat} {o : Obj} {m : Str → Option Value} {oa : Nat → Addr} {Q : Value → Shared → Prop} (B : SeqAtB prog w adE hfE (sN b) l items) (hi : isIter (iN b) l i o) (pv : PvG adE hfE hE env (one I o)) {a : AV} (ha : items[i]? = some a)
    (S : Sit prog w cls h₀ ad hf σ s.heap) (F : Fra prog w (gun (one I o) hE) env ρ ad hf s.heap m oa) (X : ExtF adE hfE (gun (one I o) hE) ad hf s.heap)
    (h : ∀ v h' o', isIter (iN b) l (i + 1) o' → PvG adE hfE hE env (one I o') → Sit prog w cls h₀ ad hf σ h' → Fra prog w (gun (one I o') hE) env ρ ad hf h' m oa → ExtF adE hfE (gun (one I o') hE) ad hf h' → VRel prog w ad hf a v → (∀ a x, a ≠ I → s.heap.get? a = some x → h'.get? a = some x) → Q v { s with heap := h' }) :
    wpAny (model prog w) A (pyNext (.ref I)) (fun r s₁ => ∃ v, r = some v ∧ Q v s₁) E s := by
  cases b with
  | true => exact next_list B hi pv ha S F X fun v h' o' a1 a2 a3 a4 a5 a6 a7 _ => h v h' o' a1 a2 a3 a4 a5 a6 a7
  | false => exact next_tuple B hi pv ha S F X h
theorem done_seq {b : Bool} {I l : Addr} {items : List AV} {o : Obj} {m : Str → Option Value} {oa : Nat → Addr} {Q : Option Value → Shared → Prop} (hh : A.handled = none) (B : SeqAtB prog w adE hfE (sN b) l items) (hi : isIter (iN b) l items.length o) (pv : PvG adE hfE hE env (one I o))
    (S : Sit prog w cls h₀ ad hf σ s.heap) (F : Fra prog w (gun (one I o) hE) env ρ ad hf s.heap m oa) (X : ExtF adE hfE (gun (one I o) hE) ad hf s.heap)
    (h : ∀ h', Sit prog w cls h₀ ad hf σ h' → Fra prog w hE env ρ ad hf h' m oa → ExtF adE hfE hE ad hf h' → (∀ a x, a ≠ I → s.heap.get? a = some x → h'.get? a = some x) → Q none { s with heap := h' }) :
    wpAny (model prog w) A (pyNext (.ref I)) Q E s := by
  have held : s.heap.get? I = some o := X.kp I o (gun_some one_self) (pv I o one_self).a
  obtain ⟨vs, n, hl, R⟩ := B.now S X
  have fin : ∀ h', (∀ a x, a ≠ I → s.heap.get? a = some x → h'.get? a = some x) → Q none { s with heap := h' } := fun h' keep => by
    obtain ⟨S', F', X', _⟩ := turnC (g' := fun _ => none) S F X pv (fun a x q z => keep a x (one_null z) q) fun _ _ e => by cases e
    exact h h' S' F' X' keep
  cases b with
  | true => exact wpAny_pyNext_list_end hh (i := items.length) ⟨o, held, hi.1, hi.2⟩ (PySem.IsL.isList hl) (by rw [R.length]; simp) fun h' hx => fin h' fun a x ne q => hx a x ne q
  | false => exact wpAny_pyNext_tuple_end hh (i := items.length) ⟨o, held, hi.1, hi.2⟩ ⟨_, hl, rfl, n, rfl⟩ (by rw [R.length]; simp) fun h' hx => fin h' fun a x ne q => hx a x ne q
theorem gun_comm {I D : Addr} {o o' : Obj} (ne : I ≠ D) (hB : Fz) : gun (one I o) (gun (one D o') hB) = gun (one D o') (gun (one I o) hB) := by
  funext a
  unfold gun one
  by_cases h1 : a = I
  · subst h1; simp [ne]
  · by_cases h2 : a = D
    · subst h2; simp [h1]
    · simp [h1, h2]

/-! comprehension -/
structure CompFacts (prog : Program) (w : World) (cls : Nat → Addr) (h₀ : Heap) (ad : Ad) (hf : Fz) (s : Shared) (l : List AV) (σ' : Sto) (D C : Addr) (vs : List Value) (n : Nat) (h' : Heap) (ad' : Ad) (hf' : Fz) (m' : Str → Option Value) : Prop where
  d : s.heap.get? D = none
  c : s.heap.get? C = none
  dc : D ≠ C
  ns : h'.Ns C m'
  o : h'.get? D = some (lstO vs n)
  S : Sit prog w cls h₀ ad' hf' σ' h'
  X : Ext ad hf s.heap ad' hf' h'
  V : VRels prog w ad' hf' l vs
  pd : hf' D = none ∧ Off ad' D
  pc : hf' C = none ∧ Off ad' C
inductive CInv (prog : Program) (w : World) (cls : Nat → Addr) (h₀ : Heap) (s : Shared) (ad : Ad) (hf : Fz) (b : Bool) (la I D : Addr) (hEB : Fz) (cenv : Env) (ρ : Loc) (t : Nat) (f : AV → Sto → Option (Option AV × Sto)) (L l : List AV) (σ' : Sto) (n : Nat) (s' : Shared) : Prop
  | mk (i : Nat) (h' : Heap) (tk : Nat) (o : Obj) (σi : Sto) (ρc : Loc) (ys : List Value) (n' : Nat) (ad' : Ad) (hf' : Fz) (m' : Str → Option Value) (oa' : Nat → Addr) (acc rest : List AV)
    (e1 : s' = { s with heap := h', toks := tk }) (e2 : n = L.length - i) (e3 : i ≤ L.length) (e4 : acc.length ≤ i) (e5 : compL f (L.drop i) σi = some (rest, σ')) (e6 : acc ++ rest = l) (e7 : isIter (iN b) la i o) (e8 : Sit prog w cls h₀ ad' hf' σi h')
    (e9 : Fra prog w (gun (one I o) (gun (one D (lstO ys n')) hEB)) cenv ρc ad' hf' h' m' oa') (e10 : ExtF ad hf (gun (one I o) (gun (one D (lstO ys n')) hEB)) ad' hf' h') (e11 : VRels prog w ad' hf' acc ys) (e12 : ∀ k, k ≠ t → look k ρc = look k (valsOf ρ)) : CInv prog w cls h₀ s ad hf b la I D hEB cenv ρ t f L l σ' n s'
noncomputable abbrev cF (fc : Loc → Sto → Option (Bool × Sto)) (fx : Loc → Sto → Option (AV × Sto)) (t : Nat) (ρ : Loc) : AV → Sto → Option (Option AV × Sto) := fun v σ => (fc (put t (.val v) (valsOf ρ)) σ).bind fun (ok, σ) => if ok then (fx (put t (.val v) (valsOf ρ)) σ).map (fun (r, σ) => (some r, σ)) else some (none, σ)
theorem pv_one {hB : Fz} {cenv : Env} {D : Addr} {o : Obj} (f2 : Off ad D) (f1 : hf D = none) (n : hB D = none) (ne : cenv.locals ≠ D) (c : ∀ x c, cenv.cells.lookup x = some c → c ≠ D) : PvG ad hf hB cenv (one D o) := fun a x q => by
  obtain ⟨rfl, rfl⟩ := one_some q
  exact ⟨f2, f1, n, ne, c⟩
theorem comp_loop {elt iter : Expr} {ifs : List Expr} {t : Nat} {px pos : Pos} {scope : Scope} {cenv : Env} {L l : List AV} {b : Bool} {la I D : Addr} {hEB : Fz} {fc : Loc → Sto → Option (Bool × Sto)} {fx : Loc → Sto → Option (AV × Sto)} {R : Result → Shared → Prop} {s₀ : Shared}
    (hh : A.handled = none) (B : SeqAtB prog w ad hf (sN b) la L) (hfit : fits L = true) (ht : t < wmax) (hkt : cenv.kindOf (Wn t) = some .local) (neID : I ≠ D) (fD1 : hf D = none) (fD2 : Off ad D)
    (PI : ∀ o o', PvG ad hf (gun (one D o) hEB) cenv (one I o')) (PD : ∀ o o', PvG ad hf (gun (one I o) hEB) cenv (one D o')) (FR : ∀ o o', FreshE (gun (one I o) (gun (one D o') hEB)) cenv)
    (cond : BOk prog w cls h₀ cenv A fc (testsOf ifs cenv)) (hel : XOk prog w cls h₀ cenv A fx elt)
    (fin : ∀ ys n' h2 tk ad' hf' m' oa' ρc, Sit prog w cls h₀ ad' hf' σ' h2 → Fra prog w (gun (one D (lstO ys n')) hEB) cenv ρc ad' hf' h2 m' oa' → ExtF ad hf (gun (one D (lstO ys n')) hEB) ad' hf' h2 → VRels prog w ad' hf' l ys → R (.ok .next) { s₀ with heap := h2, toks := tk })
    (n : Nat) (hI : CInv prog w cls h₀ s₀ ad hf b la I D hEB cenv ρ t (cF fc fx t ρ) L l σ' n s) :
    codeAny (model prog w) A (.compLoop (.ListComp elt [⟨.Name (Wn t) px, iter, ifs, 0⟩] scope pos) 0 (.ref I) (.ref D) cenv) R s := by
  have hfl := fits_len hfit
  refine codeAny_compLoop_tests (CInv prog w cls h₀ s₀ ad hf b la I D hEB cenv ρ t (cF fc fx t ρ) L l σ') ?_ n hI
  rintro n s' ⟨i, H, tk, o, σi, ρc, ys, n', ad', hf', m', oa', acc, rest, rfl, rfl, hi, hal, e, hacc, hio, S', F', X', VA, hρ⟩
  by_cases hlt : i < L.length
  · rw [List.drop_eq_getElem_cons hlt, compL] at e
    obtain ⟨⟨r, σ1⟩, he1, e⟩ := Option.bind_eq_some_iff.mp e
    obtain ⟨⟨rest', σ2⟩, he2, e⟩ := Option.map_eq_some_iff.mp e
    cases e
    obtain ⟨⟨ok, σc⟩, hc1, he1⟩ := Option.bind_eq_some_iff.mp he1
    refine wpAny_mono (next_seq (Q := ?q) B hio (PI _ _) (List.getElem?_eq_getElem hlt) S' F' X' fun v h2 o2 hio2 _ S2 F2 X2 V2 _ => ?tt) (fun r s₁ h₁ => ?b) (fun _ _ e => e)
    case b =>
      obtain ⟨v, rfl, h₁⟩ := h₁
      exact h₁
    case tt =>
      refine wpAny_assign_Name (store_var S2 F2 X2 (FR _ _) ht (.inl hkt) (u := .val L[i]) (a := 0) V2 (fun _ z => by cases z) fun h3 tk3 m3 S3 F3 X3 => ?_)
      have F3' := F3.same (ρ' := put t (.val L[i]) (valsOf ρ)) fun k => by
        rw [look_put, look_put]
        by_cases z : k = t
        · rw [if_pos z, if_pos z]
        · rw [if_neg z, if_neg z, hρ k z]
      refine cond _ _ _ _ _ _ _ _ _ _ _ _ hc1 S3 F3' fun h4 tk4 ad4 hf4 S4 E4 => ?_
      have F4 := F3'.ext E4
      have X4 := X3.trans E4
      have VA4 := VA.mono E4.pre E4.hm
      cases ok with
      | false =>
        simp only [Bool.false_eq_true, if_false] at he1 ⊢
        cases he1
        exact ⟨L.length - (i + 1), by omega, i + 1, h4, tk4, o2, _, _, ys, n', ad4, hf4, m3, _, acc, rest', rfl, rfl, hlt, by omega, he2, hacc, hio2, S4, F4, X4, VA4, fun k ne => by rw [look_put, if_neg ne]⟩
      | true =>
        simp only [if_true] at he1 ⊢
        obtain ⟨⟨y, σy⟩, hy, he1⟩ := Option.map_eq_some_iff.mp he1
        cases he1
        refine hel _ _ _ _ _ _ _ _ _ _ _ _ hy S4 F4 fun yv h5 tk5 ad5 hf5 S5 E5 V5 => ?_
        have F5 := F4.ext E5
        have X5 := X4.trans E5
        have VA5 := VA4.mono E5.pre E5.hm
        rw [gun_comm neID] at F5 X5
        have oD5 : h5.get? D = some (lstO ys n') := X5.kp D _ (gun_some one_self) fD2
        have hal2 := VA5.length
        refine wpAny_list_append_plain (items := List.toArray ys) ⟨n', oD5⟩ (fun h6 ⟨n6, hl6⟩ hs6 => ?_) (by simp; rw [sizeLine_eq]; omega)
        have hl6' : h6.get? D = some (lstO (ys ++ [yv]) n6) := by rw [List.push_toArray] at hl6; exact hl6
        obtain ⟨S6, F6, X6, _⟩ := turn1C S5 F5 X5 (PD _ _) (fun a x ne q => (hs6.2 a ne).trans q) hl6'
        rw [← gun_comm neID] at F6 X6
        exact ⟨L.length - (i + 1), by omega, i + 1, h6, tk5, o2, _, _, ys ++ [yv], n6, ad5, hf5, m3, _, acc ++ [y], rest', rfl, rfl, hlt, by simp; omega, he2, by rw [← hacc]; simp, hio2, S6, F6, X6, VA5.append (VRels.one V5), fun k ne => by rw [look_put, if_neg ne]⟩
  · have hz : i = L.length := by omega
    subst hz
    rw [List.drop_length, compL] at e
    cases e
    rw [List.append_nil] at hacc
    subst hacc
    refine done_seq hh B hio (PI _ _) S' F' X' fun h2 S2 F2 X2 _ => ?_
    exact fin _ _ _ _ _ _ _ _ _ S2 F2 X2 VA
theorem comp_fra {h₁ : Heap} {t : Nat} {scope : Scope} {cl : List (Str × Addr)} {C : Addr} {G : Fz} {m m' : Str → Option Value} {oa : Nat → Addr} (F : Fra prog w hE env ρ ad hf h m oa) (gr : Grow h h₁) (hns₁ : h₁.Ns C m')
    (hcl : ∀ x c, cl.lookup x = some c → env.cells.lookup x = some c) (hcl2 : ∀ x, (compEnvC scope cl C env).kindOf x = some .cell ∨ (compEnvC scope cl C env).kindOf x = some .free → (∃ c, cl.lookup x = some c) ∧ (env.kindOf x = some .cell ∨ env.kindOf x = some .free))
    (hkind : scope.kind = .function) (hloc : ∀ k, k < wmax → (compEnvC scope cl C env).kindOf (Wn k) = some .local → k = t) (fC : hf C = none ∧ Off ad C) (cellNe : ∀ x c, cl.lookup x = some c → c ≠ C) :
    Fra prog w G (compEnvC scope cl C env) (del t (valsOf ρ)) ad hf h₁ m' oa := by
  have vals : ∀ k u, look k (del t (valsOf ρ)) = some u → k ≠ t ∧ ∃ u', look k ρ = some u' ∧ u = kill u' := fun k u q => by
    rw [look_del] at q
    split at q
    · cases q
    · rename_i ne
      rw [look_valsOf] at q
      obtain ⟨u', q1, rfl⟩ := Option.map_eq_some_iff.mp q
      exact ⟨ne, u', q1, rfl⟩
  have noOwn : ∀ k l, look k (del t (valsOf ρ)) = some (.own l) → False := fun k l q => by
    obtain ⟨_, u', _, z⟩ := vals k _ q
    cases u' <;> cases z
  refine ⟨hkind, F.glob, F.blt, hns₁, fun k u q hk => ?_, fun y hy => ?_, fC, fun x c q => ?_, fun x y c q q' => F.cc x y c (hcl x c q) (hcl y c q'), fun k l q _ => (noOwn k l q).elim, fun j k l l' q => (noOwn j l q).elim⟩
  · obtain ⟨ne, u', q1, rfl⟩ := vals k u q
    obtain ⟨v, W1, L1⟩ := F.vars k u' q1 hk
    refine ⟨v, ⟨fun z => absurd (hloc k hk z) ne, fun z => ?_⟩, ?_⟩
    · obtain ⟨⟨c, hc⟩, hk'⟩ := hcl2 _ z
      obtain ⟨c', hc', hv'⟩ := W1.2 hk'
      have := hcl _ _ hc
      rw [hc'] at this; cases this
      obtain ⟨o, z1, z2⟩ := hv'
      exact ⟨_, hc, o, gr _ _ z1, z2⟩
    · cases u' with
      | val a => exact L1
      | own l => trivial
      | dead => trivial
  · obtain ⟨⟨c, hc⟩, hk'⟩ := hcl2 _ hy
    obtain ⟨c', v', hc', o, z1, z2⟩ := F.cl y hk'
    have := hcl _ _ hc
    rw [hc'] at this; cases this
    exact ⟨_, v', hc, o, gr _ _ z1, z2⟩
  · obtain ⟨a1, b1, _, v', o, z1, z2⟩ := F.pc x c (hcl x c q)
    exact ⟨a1, b1, cellNe x c q, v', o, gr _ _ z1, z2⟩
theorem comp_ext {h₁ : Heap} {I D : Addr} {oi od : Obj} {hEB : Fz} (oI : h₁.get? I = some oi) (oD : h₁.get? D = some od) (gr : Grow h h₁) (hB : h.get? = hEB) : ExtF ad hf (gun (one I oi) (gun (one D od) hEB)) ad hf h₁ := by
  subst hB
  have cases3 : ∀ a o, gun (one I oi) (gun (one D od) h.get?) a = some o → h₁.get? a = some o := fun a o q => by
    rcases gun_cases q with q | ⟨_, q⟩
    · obtain ⟨rfl, rfl⟩ := one_some q; exact oI
    · rcases gun_cases q with q | ⟨_, q⟩
      · obtain ⟨rfl, rfl⟩ := one_some q; exact oD
      · exact gr _ _ q
  exact ⟨fun _ _ q => q, fun _ _ _ _ q => q, ⟨[], (List.append_nil _).symm, fun _ hp => nomatch hp⟩, fun a o q _ => cases3 a o q, fun a o q => ⟨o, cases3 a o q⟩⟩
theorem comp_sound {elt iter : Expr} {ifs : List Expr} {t : Nat} {px pos : Pos} {scope : Scope} {cl : List (Str × Addr)} {a : AV} {L l : List AV} {xv : Value} {m : Str → Option Value} {oa : Nat → Addr} {fc : Loc → Sto → Option (Bool × Sto)} {fx : Loc → Sto → Option (AV × Sto)} {R : Value → Addr → Result → Shared → Prop}
    (hh : A.handled = none) (S : Sit prog w cls h₀ ad hf σ s.heap) (F : Fra prog w hE env ρ ad hf s.heap m oa) (V : VRel prog w ad hf a xv) (hL : items a = some L) (hfit : fits L = true) (ht : t < wmax)
    (hcl : ∀ x c, cl.lookup x = some c → env.cells.lookup x = some c) (hcl2 : ∀ C x, (compEnvC scope cl C env).kindOf x = some .cell ∨ (compEnvC scope cl C env).kindOf x = some .free → (∃ c, cl.lookup x = some c) ∧ (env.kindOf x = some .cell ∨ env.kindOf x = some .free))
    (hcell : ∀ y ∈ scope.names, y.2 ≠ .cell) (hkind : scope.kind = .function) (hx : scope.names.lookup (Wn t) = some .local)
    (hloc : ∀ C k, k < wmax → (compEnvC scope cl C env).kindOf (Wn k) = some .local → k = t)
    (cond : ∀ C, BOk prog w cls h₀ (compEnvC scope cl C env) A fc (testsOf ifs (compEnvC scope cl C env))) (hel : ∀ C, XOk prog w cls h₀ (compEnvC scope cl C env) A fx elt)
    (e : compL (fun v σ => (fc (put t (.val v) (valsOf ρ)) σ).bind fun (ok, σ) => if ok then (fx (put t (.val v) (valsOf ρ)) σ).map (fun (r, σ) => (some r, σ)) else some (none, σ)) L σ = some (l, σ'))
    (fin : ∀ D C vs n h' tk ad' hf' m', CompFacts prog w cls h₀ ad hf s l σ' D C vs n h' ad' hf' m' → R (.ref D) C (.ok .next) { s with heap := h', toks := tk }) :
    wpAny (model prog w) A (pyIter xv) (fun it s₂ => wpAny (model prog w) A (newList []) (fun acc s₃ => wpAny (model prog w) A (newFunctionEnv scope env.globals cl [] env.qual none .none (some env)) (fun cenv s₄ =>
      codeAny (model prog w) A (.compStart (.ListComp elt [⟨.Name (Wn t) px, iter, ifs, 0⟩] scope pos) 0 it acc { cenv with scope := relabel scope env }) (R acc cenv.locals) s₄) E s₃) E s₂) E s := by
  obtain ⟨b, la, rfl, B⟩ := hfSeq hL V
  obtain ⟨vs₀, n₀, hl₀, R₀⟩ := B.now S (Ext.refl ad hf s.heap)
  refine iter_seq hl₀ ?_
  refine wpAny_newObj_type ?_
  dsimp only
  generalize hI : s.heap.objs.size = I
  generalize hH1 : s.heap.push (iObj b la 0) = H1
  generalize hD : H1.objs.size = D
  generalize hH2 : H1.push { cls := .type "list", dict := none, data := .seq ([] : List Value).toArray } = H2
  have sD : D = I + 1 := by rw [← hD, ← hH1, Heap.size_push, hI]
  have sH2 : H2.objs.size = I + 2 := by rw [← hH2, Heap.size_push, hD, sD]
  have n1 : s.heap.get? I = none := hI ▸ size_none _
  have n2 : s.heap.get? D = none := Heap.get?_none_of_le (by rw [hI, sD]; exact Nat.le_succ _)
  have n3 : s.heap.get? (I + 2) = none := Heap.get?_none_of_le (by rw [hI]; omega)
  have g1 : Grow s.heap H1 := hH1 ▸ Grow.push _ _
  have g2 : Grow H1 H2 := hH2 ▸ Grow.push _ _
  have oI1 : H1.get? I = some (iObj b la 0) := by rw [← hH1, ← hI]; exact Heap.get?_push_size _ rfl
  have oD2 : H2.get? D = some (lstO [] 0) := by rw [← hH2, ← hD]; exact Heap.get?_push_size _ rfl
  have neID : I ≠ D := by omega
  refine wpAny_newFunctionEnv hcell (by intro y hy; simp at hy) (fun h₁ hns₁ hsb₁ => ?_) hkind
  rw [sH2] at hns₁ hsb₁ ⊢
  dsimp only at hns₁ hsb₁ ⊢
  generalize hC : I + 2 = C at hns₁ hsb₁ n3 ⊢
  have old : Grow H2 h₁ := fun x o q => (hsb₁.2 x (fun z => by have : x < H2.objs.size := Heap.lt_size q; rw [z, sH2, hC] at this; exact Nat.lt_irrefl _ this)).trans (Heap.get?_push_of_some _ q)
  have gr : Grow s.heap h₁ := (g1.trans g2).trans old
  have oI : h₁.get? I = some (iObj b la 0) := old _ _ (g2 _ _ oI1)
  have oD : h₁.get? D = some (lstO [] 0) := old _ _ oD2
  have neDC : D ≠ C := by omega
  have neIC : I ≠ C := by omega
  -- the base
  generalize hB : s.heap.get? = hEB
  have hBa : ∀ x, hEB x = s.heap.get? x := fun x => by rw [← hB]
  have S₁ := S.grow gr
  obtain ⟨fI1, fI2⟩ := S.fresh n1
  obtain ⟨fD1, fD2⟩ := S.fresh n2
  obtain ⟨fC1, fC2⟩ := S.fresh n3
  have cellOld : ∀ x c, cl.lookup x = some c → ∃ o, s.heap.get? c = some o := fun x c q => by
    obtain ⟨_, _, _, v, o, ho, _⟩ := F.pc x c (hcl x c q); exact ⟨o, ho⟩
  have cellNe : ∀ x c, cl.lookup x = some c → c ≠ I ∧ c ≠ D ∧ c ≠ C := fun x c q => by
    obtain ⟨o, ho⟩ := cellOld x c q
    exact ⟨fun z => (by rw [z, n1] at ho; cases ho), fun z => (by rw [z, n2] at ho; cases ho), fun z => (by rw [z, n3] at ho; cases ho)⟩
  have PI : ∀ o o', PvG ad hf (gun (one D o) hEB) (compEnvC scope cl C env) (one I o') := fun o o' => pv_one fI2 fI1 (by rw [gun_none (one_ne neID), hBa]; exact n1) (Ne.symm neIC) fun x c q => (cellNe x c q).1
  have PD : ∀ o o', PvG ad hf (gun (one I o) hEB) (compEnvC scope cl C env) (one D o') := fun o o' => pv_one fD2 fD1 (by rw [gun_none (one_ne (Ne.symm neID)), hBa]; exact n2) (Ne.symm neDC) fun x c q => (cellNe x c q).2.1
  have FR : ∀ o o', FreshE (gun (one I o) (gun (one D o') hEB)) (compEnvC scope cl C env) := fun o o' => by
    refine ⟨?_, fun q => ?_⟩
    · show gun (one I o) (gun (one D o') hEB) C = none
      rw [gun_none (one_ne (Ne.symm neIC)), gun_none (one_ne (Ne.symm neDC)), hBa]; exact n3
    · cases q
  have F₁ : Fra prog w (gun (one I (iObj b la 0)) (gun (one D (lstO [] 0)) hEB)) (compEnvC scope cl C env) (del t (valsOf ρ)) ad hf h₁ (fun x => ([] : List (Str × Value)).reverse.lookup x) oa := comp_fra F gr hns₁ hcl (hcl2 C) hkind (hloc C) ⟨fC1, fC2⟩ fun x c q => (cellNe x c q).2.2
  have X₁ := comp_ext (ad := ad) (hf := hf) oI oD gr hB
  have loop : codeAny (model prog w) A (.compLoop (.ListComp elt [⟨.Name (Wn t) px, iter, ifs, 0⟩] scope pos) 0 (.ref I) (.ref D) (compEnvC scope cl C env)) (R (.ref D) C) { s with heap := h₁, toks := s.toks + ([] : List (Str × Value)).length } := by
    refine comp_loop hh B hfit ht (lookup_relabel_local hx) neID fD1 fD2 PI PD FR (cond C) (hel C) (fun ys n' h2 tk ad' hf' m' oa' ρc S2 F2 X2 VA => ?_) L.length ⟨0, h₁, _, iObj b la 0, σ, del t (valsOf ρ), [], 0, ad, hf, _, oa, [], l, rfl, rfl, Nat.zero_le _, Nat.le_refl _, e, rfl, ⟨rfl, rfl⟩, S₁, F₁, X₁, VRels.nil, fun k ne => by rw [look_del, if_neg ne]⟩
    have oD2' : h2.get? D = some (lstO ys n') := X2.kp D _ (gun_some one_self) fD2
    refine fin D C ys n' h2 tk ad' hf' m' ⟨n2, n3, neDC, F2.ns, oD2', S2, ?_, VA, ⟨X2.hn D _ (gun_some one_self) fD2 fD1, X2.off (gun_some one_self) fD2⟩, F2.pl⟩
    have := X2.ungun (pv_one (cenv := compEnvC scope cl C env) fD2 fD1 (by rw [hBa]; exact n2) (Ne.symm neDC) fun x c q => (cellNe x c q).2.1)
    rw [← hB] at this
    exact this
  exact codeAny_compStart_list loop (self_seq oI ⟨rfl, rfl⟩ loop)
end
end Mine
/-! part MP -/
namespace Mine
open PySem PySem.W PyProof.Rows

section
variable {prog : Program} {w : World} {A : Around} {E : Value → Shared → Prop} {s : Shared}

theorem nextOf_item {it t : Addr} {i : Nat} {items : Array Value} {x : Value} {Q : Value → Shared → Prop} (hit : s.heap.IsTupleIter it t i) (ht : s.heap.IsTuple t items) (hx : items[i]? = some x)
    (hQ : ∀ h', h'.IsTupleIter it t (i + 1) → Heap.SameBut it s.heap h' → Q x { s with heap := h' }) :
    wpAny (model prog w) A (Builtin.SmallTypes.nextOf (.ref it)) Q E s := by
  obtain ⟨o, ho, hc, hd⟩ := id hit
  obtain ⟨ol, hol, _, nl, hdl⟩ := ht
  unfold Builtin.SmallTypes.nextOf
  refine wpAny_bind (wpAny_callSpecial?_slot (name := Str.ofString "__next__") hit.typeIs PySem.F.slot_tuple_iterator_next
    (wpAny_call_entry PySem.F.slot_tuple_iterator_next hit.typeIs PySem.F.entry_tuple_iterator_next ?_ (PySem.F.args_tuple_iterator_next_1 _)))
  show wpAny _ _ (PySem.field (.ref it) 0 >>= _) _ _ s
  refine wpAny_bind (wpAny_field ho hd (x := .ref t) rfl ?_)
  show wpAny _ _ (if (Value.ref t == Value.none) = true then _ else _) _ _ s
  rw [if_neg (show ¬ ((Value.ref t == Value.none) = true) from Bool.false_ne_true)]
  show wpAny _ _ (PySem.field (.ref it) 1 >>= _) _ _ s
  refine wpAny_bind (wpAny_field ho hd (x := .int i 0) rfl ?_)
  show wpAny _ _ (seqItems? (.ref t) >>= _) _ _ s
  refine wpAny_bind (wpAny_seqItems hol hdl ?_)
  simp only [Int.toNat_natCast, hx]
  refine wpAny_bind (wpAny_setField ho hd (by simp) (wpAny_pure ⟨x, rfl, wpAny_pure (hQ _ ?_ (Heap.SameBut.update ..))⟩))
  exact ⟨_, Heap.get?_update_self _ ho (Obj.isFreed_of_fields (Obj.data_mapFields hd _)), (Obj.cls_mapFields ..).trans hc, by
    rw [Obj.data_mapFields hd]; simp [rawInt]⟩
theorem nextOf_end {it t : Addr} {i : Nat} {items : Array Value} {Q : Value → Shared → Prop} (hh : A.handled = none) (hit : s.heap.IsTupleIter it t i) (ht : s.heap.IsTuple t items) (hx : items[i]? = none)
    (hE : ∀ h' e, Heap.ExtBut it s.heap h' → (∃ o, h'.get? e = some o ∧ o.cls = .type "StopIteration") → E (.ref e) { s with heap := h' }) :
    wpAny (model prog w) A (Builtin.SmallTypes.nextOf (.ref it)) Q E s := by
  obtain ⟨o, ho, hc, hd⟩ := id hit
  obtain ⟨ol, hol, _, nl, hdl⟩ := ht
  unfold Builtin.SmallTypes.nextOf
  refine wpAny_bind (wpAny_callSpecial?_slot (name := Str.ofString "__next__") hit.typeIs PySem.F.slot_tuple_iterator_next
    (wpAny_call_entry PySem.F.slot_tuple_iterator_next hit.typeIs PySem.F.entry_tuple_iterator_next ?_ (PySem.F.args_tuple_iterator_next_1 _)))
  show wpAny _ _ (PySem.field (.ref it) 0 >>= _) _ _ s
  refine wpAny_bind (wpAny_field ho hd (x := .ref t) rfl ?_)
  show wpAny _ _ (if (Value.ref t == Value.none) = true then _ else _) _ _ s
  rw [if_neg (show ¬ ((Value.ref t == Value.none) = true) from Bool.false_ne_true)]
  show wpAny _ _ (PySem.field (.ref it) 1 >>= _) _ _ s
  refine wpAny_bind (wpAny_field ho hd (x := .int i 0) rfl ?_)
  show wpAny _ _ (seqItems? (.ref t) >>= _) _ _ s
  refine wpAny_bind (wpAny_seqItems hol hdl ?_)
  simp only [Int.toNat_natCast, hx]
  refine wpAny_bind (wpAny_rule (wpAny_bind (wpAny_setField ho hd (by simp) ?_)))
  show wpAny _ _ (newExc (.type "StopIteration") [] >>= _) _ _ _
  refine wpAny_bind ?_
  simp only [newExc, newTuple]
  refine wpAny_bind (wpAny_newObj_type ?_ (by size_fits))
  refine wpAny_bind (m := firstArgMember _ _) (wpAny_of_eq (a := Value.none) (by first | rfl | (simp only [firstArgMember]; rfl)) ?_)
  refine wpAny_newObj_type ?_ (by size_fits)
  simp only [raiseNew]
  refine wpAny_bind (wpAny_handled ?_)
  first | rw [show A.in1.handled = none from hh] | rw [hh]
  refine wpAny_bind (wpAny_pure (wpAny_throw ?_))
  exact hE _ _ (((Heap.SameBut.update ..).extBut.push _).push _) ⟨_, Heap.get?_push_size _ rfl, rfl⟩

noncomputable abbrev zObj (f0 : Value) (fl : Bool) (TI TO : Addr) : Obj := { cls := .type "zip", dict := none, data := .fields #[f0, .bool fl, .bool false, .ref TI, .ref TO], slots := #[] }
/-- the zip behind its first tuple, which still lives -/
structure ZipHeld (h : Heap) (z TI TO i1 i2 l1 l2 T0 : Addr) (fl : Bool) (k : Nat) (xs ys : Array Value) : Prop where
  z : h.get? z = some (zObj (rawInt T0) fl TI TO)
  t0 : ∃ o, h.get? T0 = some o
  ti : IsPair h TI (.ref i1) (.ref i2)
  i1 : h.IsTupleIter i1 l1 k
  i2 : h.IsTupleIter i2 l2 k
  l1 : h.IsTuple l1 xs
  l2 : h.IsTuple l2 ys
theorem ZipHeld.at {h h' : Heap} {z TI TO i1 i2 l1 l2 T0 : Addr} {fl : Bool} {k : Nat} {xs ys : Array Value} (Z : ZipHeld h z TI TO i1 i2 l1 l2 T0 fl k xs ys) (g : Grow h h') : ZipHeld h' z TI TO i1 i2 l1 l2 T0 fl k xs ys :=
  ⟨g _ _ Z.z, let ⟨o, e⟩ := Z.t0; ⟨o, g _ _ e⟩, g _ _ Z.ti, let ⟨o, e, r⟩ := Z.i1; ⟨o, g _ _ e, r⟩, let ⟨o, e, r⟩ := Z.i2; ⟨o, g _ _ e, r⟩, let ⟨o, e, r⟩ := Z.l1; ⟨o, g _ _ e, r⟩, let ⟨o, e, r⟩ := Z.l2; ⟨o, g _ _ e, r⟩⟩

/-- the way into the loop, when the first tuple lives -/
theorem held_in {z TI TO i1 i2 l1 l2 T0 : Addr} {fl : Bool} {k : Nat} {xs ys : Array Value} {α : Type} {f : Bool → Sem α} {Q : α → Shared → Prop} (D : ZipApart z TI TO i1 i2 l1 l2) (hT : T0 ≠ z) (Z : ZipHeld s.heap z TI TO i1 i2 l1 l2 T0 fl k xs ys)
    (h : ∀ h', ZipHeld h' z TI TO i1 i2 l1 l2 T0 true k xs ys → Heap.SameBut z s.heap h' → wpAny (model prog w) A (f false) Q E { s with heap := h' }) :
    wpAny (model prog w) A (Builtin.SmallTypes.ownedTupleIsFree (.ref z) >>= f) Q E s := by
  obtain ⟨o, ho⟩ := Z.t0
  refine wpAny_bind ?_
  unfold Builtin.SmallTypes.ownedTupleIsFree
  refine wpAny_bind (wpAny_field Z.z rfl (x := rawInt T0) rfl ?_)
  show wpAny _ _ (loadIfAlive ((T0 : Int).toNat) >>= _) _ _ _
  rw [Int.toNat_natCast]
  refine wpAny_bind (kdx_alive ho ?_)
  simp only [Option.isNone_some, Bool.false_eq_true, if_false]
  refine wpAny_bind (wpAny_field Z.z rfl (x := .bool fl) rfl ?_)
  cases fl with
  | true =>
    rw [if_neg (show ¬ ((Value.bool true != Value.bool true) = true) from Bool.false_ne_true)]
    exact wpAny_pure (h s.heap Z (Heap.SameBut.refl _ _))
  | false =>
    rw [if_pos (show (Value.bool false != Value.bool true) = true from rfl)]
    refine wpAny_bind (wpAny_setField_rec Z.z (by simp) fun h₃ he₃ hs₃ => ?_)
    have hs : Heap.SameBut z s.heap h₃ := hs₃
    refine wpAny_pure (h h₃ ⟨he₃, ⟨o, (hs.2 _ hT).trans ho⟩, (hs.2 _ D.TIz).trans Z.ti, Z.i1.extBut hs.extBut D.i1z, Z.i2.extBut hs.extBut D.i2z, Z.l1.extBut hs.extBut D.l1z, Z.l2.extBut hs.extBut D.l2z⟩ hs)
theorem zip_held_item {z TI TO i1 i2 l1 l2 T0 : Addr} {fl : Bool} {k : Nat} {xs ys : Array Value} {x y : Value} {Q : Value → Shared → Prop} (D : ZipApart z TI TO i1 i2 l1 l2) (hT : T0 ≠ z) (hT1 : T0 ≠ i1) (hT2 : T0 ≠ i2) (Z : ZipHeld s.heap z TI TO i1 i2 l1 l2 T0 fl k xs ys)
    (hx : xs[k]? = some x) (hy : ys[k]? = some y)
    (hQ : ∀ h', ZipHeld h' z TI TO i1 i2 l1 l2 T0 true (k + 1) xs ys → s.heap.get? s.heap.objs.size = none → h'.get? s.heap.objs.size = some { cls := .type "tuple", data := .seq (List.toArray [x, y]) } →
      (∀ c o, c ≠ z → c ≠ i1 → c ≠ i2 → s.heap.get? c = some o → h'.get? c = some o) → Q (.ref s.heap.objs.size) { s with heap := h' }) :
    wpAny (model prog w) A (Builtin.«zip.__next__» ⟨[.ref z], []⟩) (fun fin s' => ∃ v, fin = .done (.ret v) ∧ Q v s') E s := by
  show wpAny _ _ (PySem.field (.ref z) 2 >>= _) _ _ _
  refine wpAny_bind (wpAny_field Z.z rfl (x := .bool false) rfl ?_)
  show wpAny _ _ (PySem.field (.ref z) 3 >>= _) _ _ _
  refine wpAny_bind (wpAny_field Z.z rfl (x := .ref TI) rfl ?_)
  refine wpAny_bind (wpAny_seqItems Z.ti rfl ?_)
  show wpAny _ _ (Builtin.SmallTypes.ownedTupleIsFree (.ref z) >>= _) _ _ _
  refine held_in D hT Z fun h₁ Z₁ hs₁ => ?_
  simp only [Bool.false_eq_true, if_false]
  simp only [List.forIn_toArray, List.forIn_cons, List.forIn_nil]
  refine wpAny_bind (wpAny_bind (wpAny_bind (wpAny_holding ?_)))
  show wpAny _ _ (Builtin.SmallTypes.nextOf (.ref i1) >>= _) _ _ _
  refine wpAny_bind (nextOf_item Z₁.i1 Z₁.l1 hx fun h₂ h1₂ hs₂ => wpAny_pure (wpAny_pure ?_))
  refine wpAny_bind (wpAny_bind (wpAny_holding ?_))
  show wpAny _ _ (Builtin.SmallTypes.nextOf (.ref i2) >>= _) _ _ _
  have i12 := D.i12
  refine wpAny_bind (nextOf_item (Z₁.i2.extBut hs₂.extBut D.i12.symm) (Z₁.l2.extBut hs₂.extBut D.l2i1) hy fun h₃ h2₃ hs₃ => wpAny_pure (wpAny_pure (wpAny_pure ?_)))
  refine wpAny_bind (wpAny_newTuple (hsz := by show (2 : Nat) ≤ sizeLine; rw [sizeLine_eq]; omega) ?_)
  have hs₂ : Heap.SameBut i1 h₁ h₂ := hs₂
  have hs₃ : Heap.SameBut i2 h₂ h₃ := hs₃
  have sz : h₃.objs.size = s.heap.objs.size := by rw [hs₃.1, hs₂.1, hs₁.1]
  have k3 : ∀ c o, c ≠ i1 → c ≠ i2 → h₁.get? c = some o → h₃.get? c = some o := fun c o n1 n2 e => (hs₃.2 c n2).trans ((hs₂.2 c n1).trans e)
  have Z₃ : ZipHeld h₃ z TI TO i1 i2 l1 l2 T0 true (k + 1) xs ys := by
    obtain ⟨o, ho⟩ := Z₁.t0
    exact ⟨k3 _ _ D.i1z.symm D.i2z.symm Z₁.z, ⟨o, k3 _ _ hT1 hT2 ho⟩, k3 _ _ D.TIi1 D.TIi2 Z₁.ti, h1₂.extBut hs₃.extBut D.i12, h2₃,
      (Z₁.l1.extBut hs₂.extBut D.l1i1).extBut hs₃.extBut D.l1i2, (Z₁.l2.extBut hs₂.extBut D.l2i1).extBut hs₃.extBut D.l2i2⟩
  have D3 : (h₃.push { cls := .type "tuple", data := .seq (List.toArray [x, y]) }).get? s.heap.objs.size = some { cls := .type "tuple", data := .seq (List.toArray [x, y]) } := by rw [← sz]; exact Heap.get?_push_size _ rfl
  refine wpAny_pure ⟨_, rfl, ?_⟩
  show Q (.ref h₃.objs.size) _
  rw [sz]
  exact hQ _ (Z₃.at (Grow.push _ _)) (size_none _) D3 fun c o n0 n1 n2 e => Heap.get?_push_of_some _ (k3 c o n1 n2 ((hs₁.2 c n0).trans e))
theorem zip_held_end {z TI TO i1 i2 l1 l2 T0 : Addr} {fl : Bool} {k : Nat} {xs ys : Array Value} {Q : Fin → Shared → Prop} (hh : A.handled = none) (D : ZipApart z TI TO i1 i2 l1 l2) (hT : T0 ≠ z) (Z : ZipHeld s.heap z TI TO i1 i2 l1 l2 T0 fl k xs ys)
    (hend : xs[k]? = none ∨ ys[k]? = none)
    (hE : ∀ h' e, (∀ c o, c ≠ z → c ≠ i1 → c ≠ i2 → s.heap.get? c = some o → h'.get? c = some o) → (∃ o, h'.get? e = some o ∧ o.cls = .type "StopIteration") → E (.ref e) { s with heap := h' }) :
    wpAny (model prog w) A (Builtin.«zip.__next__» ⟨[.ref z], []⟩) Q E s := by
  show wpAny _ _ (PySem.field (.ref z) 2 >>= _) _ _ _
  refine wpAny_bind (wpAny_field Z.z rfl (x := .bool false) rfl ?_)
  show wpAny _ _ (PySem.field (.ref z) 3 >>= _) _ _ _
  refine wpAny_bind (wpAny_field Z.z rfl (x := .ref TI) rfl ?_)
  refine wpAny_bind (wpAny_seqItems Z.ti rfl ?_)
  show wpAny _ _ (Builtin.SmallTypes.ownedTupleIsFree (.ref z) >>= _) _ _ _
  refine held_in D hT Z fun h₁ Z₁ hs₁ => ?_
  simp only [Bool.false_eq_true, if_false]
  simp only [List.forIn_toArray, List.forIn_cons, List.forIn_nil]
  refine wpAny_bind (wpAny_bind (wpAny_bind (wpAny_holding ?_)))
  show wpAny _ _ (Builtin.SmallTypes.nextOf (.ref i1) >>= _) _ _ _
  cases hx : xs[k]? with
  | none =>
    refine wpAny_bind (nextOf_end hh Z₁.i1 Z₁.l1 hx fun h₂ e hx₂ he => ?_)
    exact hE h₂ e (fun c o n0 n1 _ q => hx₂ c o n1 ((hs₁.2 c n0).trans q)) he
  | some x =>
    have hy : ys[k]? = none := by
      rcases hend with q | q
      · rw [hx] at q; cases q
      · exact q
    refine wpAny_bind (nextOf_item Z₁.i1 Z₁.l1 hx fun h₂ h1₂ hs₂ => wpAny_pure (wpAny_pure ?_))
    refine wpAny_bind (wpAny_bind (wpAny_holding ?_))
    show wpAny _ _ (Builtin.SmallTypes.nextOf (.ref i2) >>= _) _ _ _
    refine wpAny_bind (nextOf_end hh (Z₁.i2.extBut hs₂.extBut D.i12.symm) (Z₁.l2.extBut hs₂.extBut D.l2i1) hy fun h₃ e hx₃ he => ?_)
    exact hE h₃ e (fun c o n0 n1 n2 q => hx₃ c o n2 ((hs₂.2 c n1).trans ((hs₁.2 c n0).trans q))) he
theorem zip_free_item {z TI TO i1 i2 l1 l2 : Addr} {k : Nat} {xs ys : Array Value} {x y a b : Value} {Q : Value → Shared → Prop} (D : ZipApart z TI TO i1 i2 l1 l2)
    (hz : s.heap.get? z = some (zObj .none false TI TO)) (hTI : IsPair s.heap TI (.ref i1) (.ref i2)) (hTO : IsPair s.heap TO a b)
    (h1 : s.heap.IsTupleIter i1 l1 k) (h2 : s.heap.IsTupleIter i2 l2 k) (hl1 : s.heap.IsTuple l1 xs) (hl2 : s.heap.IsTuple l2 ys) (hx : xs[k]? = some x) (hy : ys[k]? = some y)
    (hQ : ∀ h', ZipHeld h' z TI TO i1 i2 l1 l2 s.heap.objs.size false (k + 1) xs ys → s.heap.get? s.heap.objs.size = none → h'.get? s.heap.objs.size = some { cls := .type "tuple", data := .seq (List.toArray [x, y]) } →
      (∀ c o, c ≠ z → c ≠ TO → c ≠ i1 → c ≠ i2 → s.heap.get? c = some o → h'.get? c = some o) → Q (.ref s.heap.objs.size) { s with heap := h' }) :
    wpAny (model prog w) A (Builtin.«zip.__next__» ⟨[.ref z], []⟩) (fun fin s' => ∃ v, fin = .done (.ret v) ∧ Q v s') E s := by
  show wpAny _ _ (PySem.field (.ref z) 2 >>= _) _ _ _
  refine wpAny_bind (wpAny_field hz rfl (x := .bool false) rfl ?_)
  show wpAny _ _ (PySem.field (.ref z) 3 >>= _) _ _ _
  refine wpAny_bind (wpAny_field hz rfl (x := .ref TI) rfl ?_)
  refine wpAny_bind (wpAny_seqItems hTI rfl ?_)
  show wpAny _ _ (Builtin.SmallTypes.ownedTupleIsFree (.ref z) >>= _) _ _ _
  refine wpAny_bind ?_
  unfold Builtin.SmallTypes.ownedTupleIsFree
  refine wpAny_bind (wpAny_field hz rfl (x := .none) rfl (wpAny_pure ?_))
  simp only [if_true]
  refine wpAny_bind (wpAny_rule ?_)
  refine wpAny_bind (wpAny_field hz rfl (x := .ref TO) rfl ?_)
  refine wpAny_bind (wpAny_setField_rec hz (by simp) fun h₁ hz₁ hs₁ => ?_)
  replace hz₁ : IsZip h₁ z TI TO .ellipsis := hz₁
  refine wpAny_bind ?_
  simp only [List.zipIdx_cons, List.zipIdx_nil, List.forIn_cons, List.forIn_nil]
  refine wpAny_bind (wpAny_bind (wpAny_onRaise ?_))
  show wpAny _ _ (Builtin.SmallTypes.nextOf (.ref i1) >>= _) _ _ _
  refine wpAny_bind (nextOf_item (h1.extBut hs₁.extBut D.i1z) (hl1.extBut hs₁.extBut D.l1z) hx fun h₂ h1₂ hs₂ => wpAny_pure ?_)
  have hTO₂ : IsPair h₂ TO a b := hs₂.extBut _ _ D.TOi1 (hs₁.extBut _ _ D.TOz hTO)
  refine wpAny_bind (wpAny_seqItems hTO₂ rfl ?_)
  refine wpAny_bind (wpAny_updateSeq_pair hTO₂ fun h₃ hTO₃ hs₃ => ?_)
  replace hTO₃ : IsPair h₃ TO x b := hTO₃
  refine wpAny_bind (wpAny_letGo (wpAny_pure ?_))
  refine wpAny_bind (wpAny_bind (wpAny_onRaise ?_))
  show wpAny _ _ (Builtin.SmallTypes.nextOf (.ref i2) >>= _) _ _ _
  refine wpAny_bind (nextOf_item (((h2.extBut hs₁.extBut D.i2z).extBut hs₂.extBut D.i12.symm).extBut hs₃.extBut D.TOi2.symm)
    (((hl2.extBut hs₁.extBut D.l2z).extBut hs₂.extBut D.l2i1).extBut hs₃.extBut D.l2TO) hy fun h₄ h2₄ hs₄ => wpAny_pure ?_)
  have hTO₄ : IsPair h₄ TO x b := hs₄.extBut _ _ D.TOi2 hTO₃
  refine wpAny_bind (wpAny_seqItems hTO₄ rfl ?_)
  refine wpAny_bind (wpAny_updateSeq_pair hTO₄ fun h₅ hTO₅ hs₅ => ?_)
  replace hTO₅ : IsPair h₅ TO x y := hTO₅
  refine wpAny_bind (wpAny_letGo (wpAny_pure (wpAny_pure ?_)))
  refine wpAny_bind (wpAny_seqItems hTO₅ rfl ?_)
  refine wpAny_bind (wpAny_newTuple ?_)
  have hsz : h₅.objs.size = s.heap.objs.size := by rw [hs₅.1, hs₄.1, hs₃.1, hs₂.1, hs₁.1]
  have hz₅ : IsZip h₅ z TI TO .ellipsis := hs₅.extBut _ _ D.TOz.symm (hs₄.extBut _ _ D.i2z.symm (hs₃.extBut _ _ D.TOz.symm (hs₂.extBut _ _ D.i1z.symm hz₁)))
  have hk₅ : ∀ c o, c ≠ z → c ≠ TO → c ≠ i1 → c ≠ i2 → s.heap.get? c = some o → h₅.get? c = some o := fun c o c1 c2 c3 c4 e =>
    hs₅.extBut _ _ c2 (hs₄.extBut _ _ c4 (hs₃.extBut _ _ c2 (hs₂.extBut _ _ c3 (hs₁.extBut _ _ c1 e))))
  have h1₅ : h₅.IsTupleIter i1 l1 (k + 1) := ((h1₂.extBut hs₃.extBut D.TOi1.symm).extBut hs₄.extBut D.i12).extBut hs₅.extBut D.TOi1.symm
  have h2₅ : h₅.IsTupleIter i2 l2 (k + 1) := h2₄.extBut hs₅.extBut D.TOi2.symm
  have hzlt : z < h₅.objs.size := Heap.lt_size hz₅
  show wpAny _ _ (Builtin.SmallTypes.ownedTupleHandOut (.ref z) (.ref h₅.objs.size) >>= _) _ _ _
  refine wpAny_bind ?_
  unfold Builtin.SmallTypes.ownedTupleHandOut
  have hz₆ : IsZip (h₅.push { cls := .type "tuple", data := .seq #[x, y] }) z TI TO .ellipsis := Heap.get?_push_of_some _ hz₅
  refine wpAny_bind (wpAny_setField_rec hz₆ (by simp) fun h₇ hz₇ hs₇ => ?_)
  replace hz₇ : IsZip h₇ z TI TO (rawInt h₅.objs.size) := hz₇
  refine wpAny_setField_rec hz₇ (by simp) fun h₈ hz₈ hs₈ => ?_
  replace hz₈ : IsZip h₈ z TI TO (rawInt h₅.objs.size) := hz₈
  have up : ∀ c o, c ≠ z → h₅.get? c = some o → h₈.get? c = some o := fun c o c1 e => hs₈.extBut _ _ c1 (hs₇.extBut _ _ c1 (Heap.get?_push_of_some _ e))
  have hT₈ : IsPair h₈ h₅.objs.size x y := hs₈.extBut _ _ (Nat.ne_of_gt hzlt) (hs₇.extBut _ _ (Nat.ne_of_gt hzlt) (Heap.get?_push_size _ rfl))
  rw [hsz] at hz₈ hT₈
  refine wpAny_pure ⟨_, rfl, ?_⟩
  show Q (.ref h₅.objs.size) _
  rw [hsz]
  refine hQ h₈ ⟨hz₈, ⟨_, hT₈⟩, up _ _ D.TIz (hk₅ _ _ D.TIz D.TITO D.TIi1 D.TIi2 hTI), h1₅.at fun o e => up _ o D.i1z e, h2₅.at fun o e => up _ o D.i2z e, ?_, ?_⟩ (size_none _) hT₈ fun c o c1 c2 c3 c4 e => up c o c1 (hk₅ c o c1 c2 c3 c4 e)
  · exact hl1.at fun o e => up _ o D.l1z (hk₅ _ _ D.l1z D.l1TO D.l1i1 D.l1i2 e)
  · exact hl2.at fun o e => up _ o D.l2z (hk₅ _ _ D.l2z D.l2TO D.l2i1 D.l2i2 e)

/-! the call of zip -/
noncomputable abbrev tIt (l : Addr) : Obj := { cls := .type "tuple_iterator", data := .fields #[.ref l, .int 0 0] }
noncomputable abbrev zH1 (h : Heap) (l1 : Addr) : Heap := h.push (tIt l1)
noncomputable abbrev zH2 (h : Heap) (l1 l2 : Addr) : Heap := (zH1 h l1).push (tIt l2)
noncomputable abbrev zH3 (h : Heap) (l1 l2 : Addr) : Heap := (zH2 h l1 l2).push { cls := .type "tuple", data := .seq #[.ref h.objs.size, .ref (zH1 h l1).objs.size] }
noncomputable abbrev zH4 (h : Heap) (l1 l2 : Addr) : Heap := (zH3 h l1 l2).push { cls := .type "tuple", data := .seq #[.none, .none] }
noncomputable abbrev zH5 (h : Heap) (l1 l2 : Addr) : Heap := (zH4 h l1 l2).push { cls := .type "zip", data := .fields #[.none, .bool false, .bool false, .ref (zH2 h l1 l2).objs.size, .ref (zH3 h l1 l2).objs.size] }
theorem meets_zipT (l1 l2 : Addr) (xs ys : Array Value) :
    Meets (Builtin.«zip.__new__» ⟨[.type "zip", .ref l1, .ref l2], []⟩) (fun _ R s => s.heap.IsTuple l1 xs ∧ s.heap.IsTuple l2 ys ∧
      R (.ok (.ret (.ref (zH4 s.heap l1 l2).objs.size))) { s with heap := zH5 s.heap l1 l2 }) :=
  .of_wp fun prog w A R s h => by
    obtain ⟨hp, g, d, tk, os⟩ := s; obtain ⟨hl1, hl2, h⟩ := h
    have hsub := sub_zip
    have hL1 : Heap.IsTuple (Shared.heap ⟨hp, g, d, tk, os⟩) l1 xs := hl1
    have hL2 : Heap.IsTuple (Shared.heap ⟨hp.push (tIt l1), g, d, tk, os⟩) l2 ys := Heap.IsTuple.push hl2 _
    wp_walk using wpAny_pyIter_tuple hL1, wpAny_pyIter_tuple hL2
    exact ⟨_, rfl, h⟩
theorem call_zipT {l1 l2 : Addr} {xs ys : Array Value} {Q : Value → Shared → Prop} (hl1 : s.heap.IsTuple l1 xs) (hl2 : s.heap.IsTuple l2 ys)
    (h : ∀ h' z TI TO i1 i2, z = s.heap.objs.size + 4 → TI = s.heap.objs.size + 2 → TO = s.heap.objs.size + 3 → i1 = s.heap.objs.size → i2 = s.heap.objs.size + 1 → h'.get? z = some (zObj .none false TI TO) → IsPair h' TI (.ref i1) (.ref i2) →
      IsPair h' TO .none .none → h'.IsTupleIter i1 l1 0 → h'.IsTupleIter i2 l2 0 → Grow s.heap h' → h'.objs.size = s.heap.objs.size + 5 → Q (.ref z) { s with heap := h' }) :
    wpAny (model prog w) A (call (.type "zip") [.ref l1, .ref l2]) Q E s := by
  refine callType_new PySem.F.called_zip (by decide) (PySem.F.typeCall_zip_2 _ _) (PySem.F.newCall_zip_2 _ _) (fun obj => PySem.F.args_object_init_3 obj _ _) PySem.F.entry_zip_new
    (meets_zipT l1 l2 xs ys) ⟨hl1, hl2, ?_⟩
  have z1 : (zH1 s.heap l1).objs.size = s.heap.objs.size + 1 := Heap.size_push ..
  have z2 : (zH2 s.heap l1 l2).objs.size = s.heap.objs.size + 2 := by rw [Heap.size_push, z1]
  have z3 : (zH3 s.heap l1 l2).objs.size = s.heap.objs.size + 3 := by rw [Heap.size_push, z2]
  have z4 : (zH4 s.heap l1 l2).objs.size = s.heap.objs.size + 4 := by rw [Heap.size_push, z3]
  have z5 : (zH5 s.heap l1 l2).objs.size = s.heap.objs.size + 5 := by rw [Heap.size_push, z4]
  have g5 : (zH5 s.heap l1 l2).get? (zH4 s.heap l1 l2).objs.size = some _ := Heap.get?_push_size _ rfl
  have g4 : (zH5 s.heap l1 l2).get? (zH3 s.heap l1 l2).objs.size = some _ := Heap.get?_push_of_some _ (Heap.get?_push_size _ rfl)
  have g3 : (zH5 s.heap l1 l2).get? (zH2 s.heap l1 l2).objs.size = some _ := Heap.get?_push_of_some _ (Heap.get?_push_of_some _ (Heap.get?_push_size _ rfl))
  have g2 : (zH5 s.heap l1 l2).get? (zH1 s.heap l1).objs.size = some _ := Heap.get?_push_of_some _ (Heap.get?_push_of_some _ (Heap.get?_push_of_some _ (Heap.get?_push_size _ rfl)))
  have g1 : (zH5 s.heap l1 l2).get? s.heap.objs.size = some _ := Heap.get?_push_of_some _ (Heap.get?_push_of_some _ (Heap.get?_push_of_some _ (Heap.get?_push_of_some _ (Heap.get?_push_size _ rfl))))
  show _ ∧ _
  rw [z2, z3, z4] at g5
  rw [z1, z2] at g3
  rw [z3] at g4
  rw [z1] at g2
  rw [z4]
  exact ⟨⟨_, g5, rfl⟩, h _ _ _ _ _ _ rfl rfl rfl rfl rfl g5 g3 g4 ⟨_, g1, rfl, rfl⟩ ⟨_, g2, rfl, rfl⟩ (fun c o x =>
    Heap.get?_push_of_some _ (Heap.get?_push_of_some _ (Heap.get?_push_of_some _ (Heap.get?_push_of_some _ (Heap.get?_push_of_some _ x))))) z5⟩
end
end Mine
/-! part MQ -/
namespace Mine
open PySem PySem.W PyProof.Rows

theorem zip_no_len : typeLookup (.type "zip") "__len__" = pure none := by rw [typeLookup_type, builtinLookup_eq_fast]; kernel_rfl
theorem zip_no_hint : typeLookup (.type "zip") "__length_hint__" = pure none := by rw [typeLookup_type, builtinLookup_eq_fast]; kernel_rfl

noncomputable abbrev pairO (x y : Value) : Obj := { cls := .type "tuple", data := .seq (List.toArray [x, y]) }
structure ZSt (h0 h : Heap) (z TI TO i1 i2 l1 l2 S : Addr) (xs ys : Array Value) (k : Nat) (Ts : List Addr) : Prop where
  gr : Grow h0 h
  mode : (k = 0 ∧ h.get? z = some (zObj .none false TI TO) ∧ IsPair h TI (.ref i1) (.ref i2) ∧ (∃ a b, IsPair h TO a b) ∧ h.IsTupleIter i1 l1 0 ∧ h.IsTupleIter i2 l2 0 ∧ h.IsTuple l1 xs ∧ h.IsTuple l2 ys) ∨
    (0 < k ∧ ∃ T0 fl, T0 ≠ z ∧ T0 ≠ i1 ∧ T0 ≠ i2 ∧ T0 ≠ S ∧ ZipHeld h z TI TO i1 i2 l1 l2 T0 fl k xs ys)
  len : Ts.length = k
  ps : ∀ (j : Nat) T, Ts[j]? = some T → h0.get? T = none ∧ T ≠ S ∧ T ≠ z ∧ T ≠ i1 ∧ T ≠ i2 ∧ ∃ x y, xs[j]? = some x ∧ ys[j]? = some y ∧ h.get? T = some (pairO x y)
structure ZAp (h0 : Heap) (z TI TO i1 i2 l1 l2 S : Addr) : Prop where
  D : ZipApart z TI TO i1 i2 l1 l2
  s1 : z ≠ S
  s2 : TI ≠ S
  s3 : TO ≠ S
  s4 : i1 ≠ S
  s5 : i2 ≠ S
  s6 : l1 ≠ S
  s7 : l2 ≠ S
  f : ∀ a, a = z ∨ a = TI ∨ a = TO ∨ a = i1 ∨ a = i2 ∨ a = S → h0.get? a = none
section
variable {prog : Program} {w : World} {A : Around} {E : Value → Shared → Prop} {s : Shared} {h0 h h' : Heap} {z TI TO i1 i2 l1 l2 S : Addr} {xs ys : Array Value} {k : Nat} {Ts : List Addr}

theorem ZSt.keep (Z : ZSt h0 h z TI TO i1 i2 l1 l2 S xs ys k Ts) (P : ZAp h0 z TI TO i1 i2 l1 l2 S) (kb : ∀ c o, c ≠ S → h.get? c = some o → h'.get? c = some o) : ZSt h0 h' z TI TO i1 i2 l1 l2 S xs ys k Ts := by
  refine ⟨fun c o e => kb c o (fun q => by rw [q, P.f S (by simp)] at e; cases e) (Z.gr c o e), ?_, Z.len, fun j T e => ?_⟩
  · rcases Z.mode with ⟨h1, a1, a2, ⟨x, y, a3⟩, ⟨o1, b1, b2⟩, ⟨o2, c1, c2⟩, ⟨o3, d1, d2⟩, ⟨o4, e1, e2⟩⟩ | ⟨hk, T0, fl, n1, n2, n3, n4, Zh⟩
    · exact .inl ⟨h1, kb _ _ P.s1 a1, kb _ _ P.s2 a2, ⟨x, y, kb _ _ P.s3 a3⟩, ⟨o1, kb _ _ P.s4 b1, b2⟩, ⟨o2, kb _ _ P.s5 c1, c2⟩, ⟨o3, kb _ _ P.s6 d1, d2⟩, ⟨o4, kb _ _ P.s7 e1, e2⟩⟩
    · obtain ⟨a1, ⟨o0, a0⟩, a2, ⟨o1, b1, b2⟩, ⟨o2, c1, c2⟩, ⟨o3, d1, d2⟩, ⟨o4, e1, e2⟩⟩ := Zh
      exact .inr ⟨hk, T0, fl, n1, n2, n3, n4, kb _ _ P.s1 a1, ⟨o0, kb _ _ n4 a0⟩, kb _ _ P.s2 a2, ⟨o1, kb _ _ P.s4 b1, b2⟩, ⟨o2, kb _ _ P.s5 c1, c2⟩, ⟨o3, kb _ _ P.s6 d1, d2⟩, ⟨o4, kb _ _ P.s7 e1, e2⟩⟩
  · obtain ⟨n1, n2, n3, n5, n6, x, y, e1, e2, e3⟩ := Z.ps j T e
    exact ⟨n1, n2, n3, n5, n6, x, y, e1, e2, kb _ _ n2 e3⟩
theorem ZSt.type (Z : ZSt h0 s.heap z TI TO i1 i2 l1 l2 S xs ys k Ts) : s.TypeIs (.ref z) "zip" := by
  rcases Z.mode with ⟨_, a1, _⟩ | ⟨_, T0, fl, _, _, _, _, Zh⟩
  · exact ⟨_, a1, rfl⟩
  · exact ⟨_, Zh.z, rfl⟩
theorem zip_item (Z : ZSt h0 s.heap z TI TO i1 i2 l1 l2 S xs ys k Ts) (P : ZAp h0 z TI TO i1 i2 l1 l2 S) {os : Obj} (hS : s.heap.get? S = some os) {x y : Value} (hx : xs[k]? = some x) (hy : ys[k]? = some y) {Q : Option Value → Shared → Prop}
    (hQ : ∀ h' T, ZSt h0 h' z TI TO i1 i2 l1 l2 S xs ys (k + 1) (Ts ++ [T]) → h'.get? S = some os → Q (some (.ref T)) { s with heap := h' }) :
    wpAny (model prog w) A (pyNext (.ref z)) Q E s := by
  have hT := Z.type
  have D := P.D
  have gone : h0.get? s.heap.objs.size = none := by
    cases q : h0.get? s.heap.objs.size with
    | none => rfl
    | some o => have := Z.gr _ _ q; rw [size_none] at this; cases this
  have fin : ∀ h', (∃ T0 fl, T0 ≠ z ∧ T0 ≠ i1 ∧ T0 ≠ i2 ∧ T0 ≠ S ∧ ZipHeld h' z TI TO i1 i2 l1 l2 T0 fl (k + 1) xs ys) → h'.get? s.heap.objs.size = some (pairO x y) →
      (∀ c o, c ≠ z → c ≠ i1 → c ≠ i2 → (k = 0 → c ≠ TO) → s.heap.get? c = some o → h'.get? c = some o) →
      (∀ c, c = z ∨ c = i1 ∨ c = i2 ∨ c = S → s.heap.objs.size ≠ c) → Q (some (.ref s.heap.objs.size)) { s with heap := h' } := fun h' hm hp kb ne => by
    have kb0 : ∀ c o, h0.get? c = some o → c ≠ z ∧ c ≠ TO ∧ c ≠ i1 ∧ c ≠ i2 := fun c o e =>
      ⟨fun q => (by rw [q, P.f z (by simp)] at e; cases e), fun q => (by rw [q, P.f TO (by simp)] at e; cases e), fun q => (by rw [q, P.f i1 (by simp)] at e; cases e), fun q => (by rw [q, P.f i2 (by simp)] at e; cases e)⟩
    refine hQ h' _ ⟨fun c o e => ?_, .inr ⟨Nat.succ_pos _, hm⟩, by rw [List.length_append, Z.len]; rfl, fun j T e => ?_⟩ (kb _ _ P.s1.symm P.s4.symm P.s5.symm (fun _ => P.s3.symm) hS)
    · obtain ⟨n1, n2, n3, n4⟩ := kb0 c o e
      exact kb c o n1 n3 n4 (fun _ => n2) (Z.gr c o e)
    · rcases Nat.lt_trichotomy j Ts.length with q | q | q
      · rw [List.getElem?_append_left q] at e
        obtain ⟨n1, n2, n3, n5, n6, x', y', e1, e2, e3⟩ := Z.ps j T e
        exact ⟨n1, n2, n3, n5, n6, x', y', e1, e2, kb _ _ n3 n5 n6 (fun z => by have := Z.len; omega) e3⟩
      · subst q
        rw [List.getElem?_append_right (Nat.le_refl _), Nat.sub_self] at e
        cases e
        rw [Z.len]
        exact ⟨gone, ne S (by simp), ne z (by simp), ne i1 (by simp), ne i2 (by simp), x, y, hx, hy, hp⟩
      · rw [List.getElem?_eq_none (by rw [List.length_append]; show Ts.length + 1 ≤ j; omega)] at e; cases e
  have lt : ∀ {c o}, s.heap.get? c = some o → s.heap.objs.size ≠ c := fun e => Nat.ne_of_gt (Heap.lt_size e)
  unfold pyNext
  rcases Z.mode with ⟨rfl, a1, a2, ⟨x', y', a3⟩, b, c, d, e⟩ | ⟨hk, T0, fl, n1, n2, n3, n4, Zh⟩
  · refine wpAny_bind (wpAny_attempt (wpAny_callSpecial?_slot (name := Str.ofString "__next__") hT PySem.F.slot_zip_next
      (wpAny_call_entry PySem.F.slot_zip_next hT PySem.F.entry_zip_next
        (zip_free_item D a1 a2 a3 b c d e hx hy fun h' Zh _ hp kb => wpAny_pure ?_) (PySem.F.args_zip_next_1 _))))
    obtain ⟨o1, g1, _⟩ := b
    obtain ⟨o2, g2, _⟩ := c
    have ne : ∀ c, c = z ∨ c = i1 ∨ c = i2 ∨ c = S → s.heap.objs.size ≠ c := fun c hc => by
      rcases hc with rfl | rfl | rfl | rfl
      · exact lt a1
      · exact lt g1
      · exact lt g2
      · exact lt hS
    exact fin h' ⟨_, false, ne z (by simp), ne i1 (by simp), ne i2 (by simp), ne S (by simp), Zh⟩ hp (fun c o q1 q2 q3 q4 e => kb c o q1 (q4 rfl) q2 q3 e) ne
  · refine wpAny_bind (wpAny_attempt (wpAny_callSpecial?_slot (name := Str.ofString "__next__") hT PySem.F.slot_zip_next
      (wpAny_call_entry PySem.F.slot_zip_next hT PySem.F.entry_zip_next
        (zip_held_item D n1 n2 n3 Zh hx hy fun h' Zh' _ hp kb => wpAny_pure ?_) (PySem.F.args_zip_next_1 _))))
    obtain ⟨o1, g1, _⟩ := Zh.i1
    obtain ⟨o2, g2, _⟩ := Zh.i2
    have ne : ∀ c, c = z ∨ c = i1 ∨ c = i2 ∨ c = S → s.heap.objs.size ≠ c := fun c hc => by
      rcases hc with rfl | rfl | rfl | rfl
      · exact lt Zh.z
      · exact lt g1
      · exact lt g2
      · exact lt hS
    exact fin h' ⟨T0, true, n1, n2, n3, n4, Zh'⟩ hp (fun c o q1 q2 q3 _ e => kb c o q1 q2 q3 e) ne
theorem zip_end (hh : A.handled = none) (Z : ZSt h0 s.heap z TI TO i1 i2 l1 l2 S xs ys k Ts) (P : ZAp h0 z TI TO i1 i2 l1 l2 S) {os : Obj} (hS : s.heap.get? S = some os) (hk : 0 < k) (hend : xs[k]? = none ∨ ys[k]? = none) {Q : Option Value → Shared → Prop}
    (hQ : ∀ h', Grow h0 h' → (∀ (j : Nat) T, Ts[j]? = some T → h0.get? T = none ∧ ∃ x y, xs[j]? = some x ∧ ys[j]? = some y ∧ h'.get? T = some (pairO x y)) → h'.get? S = some os → Q none { s with heap := h' }) :
    wpAny (model prog w) A (pyNext (.ref z)) Q E s := by
  have hT := Z.type
  have D := P.D
  rcases Z.mode with ⟨rfl, _⟩ | ⟨_, T0, fl, n1, n2, n3, n4, Zh⟩
  · cases hk
  · unfold pyNext
    refine wpAny_bind (wpAny_attempt (wpAny_callSpecial?_slot (name := Str.ofString "__next__") hT PySem.F.slot_zip_next
      (wpAny_call_entry PySem.F.slot_zip_next hT PySem.F.entry_zip_next (zip_held_end hh D n1 Zh hend fun h' e kb he => ?_) (PySem.F.args_zip_next_1 _))))
    obtain ⟨o, ho, hc⟩ := he
    refine wpAny_bind (wpAny_isInstance (T := "StopIteration") (b := true) ⟨o, ho, hc⟩ isSubtype_stop ?_)
    refine wpAny_pure (hQ _ (fun c o e => ?_) (fun j T e => ?_) (kb _ _ P.s1.symm P.s4.symm P.s5.symm hS))
    · exact kb c o (fun q => by rw [q, P.f z (by simp)] at e; cases e) (fun q => by rw [q, P.f i1 (by simp)] at e; cases e) (fun q => by rw [q, P.f i2 (by simp)] at e; cases e) (Z.gr c o e)
    · obtain ⟨n1, n2, n3, n5, n6, x', y', e1, e2, e3⟩ := Z.ps j T e
      exact ⟨n1, x', y', e1, e2, kb _ _ n3 n5 n6 e3⟩

/-- the loop of list.extend over the zip -/
theorem zip_loop {n : Nat} (hh : A.handled = none) (P : ZAp h0 z TI TO i1 i2 l1 l2 S) (hn : n = min xs.size ys.size) (hpos : 0 < n) (hfit : n ≤ 1000000) (res : Value) {R : Result → Shared → Prop} :
    ∀ (d k : Nat) (Ts : List Addr) (s : Shared) (c : Nat), n - k = d → k ≤ n → ZSt h0 s.heap z TI TO i1 i2 l1 l2 S xs ys k Ts → s.heap.get? S = some (lstO (Ts.map Value.ref) c) →
    (∀ (h' : Heap) (Ts : List Addr) (c' : Nat), Ts.length = n → Grow h0 h' → (∀ (j : Nat) T, Ts[j]? = some T → h0.get? T = none ∧ ∃ x y, xs[j]? = some x ∧ ys[j]? = some y ∧ h'.get? T = some (pairO x y)) → h'.get? S = some (lstO (Ts.map Value.ref) c') → R (.ok (.ret res)) { s with heap := h' }) →
    codeAny (model prog w) A (.builtin "list.extend.loop" ⟨[.ref S, .ref z, res], []⟩) R s := by
  intro d
  induction d with
  | zero =>
    intro k Ts s c hd hk Z hS hR
    have : k = n := by omega
    subst this
    refine codeAny_builtin PySem.F.entry_extend_loop ?_
    rw [Around.under_plainId PySem.F.plain_extend_loop _]
    show wpAny _ A.in1 (pyNext (.ref z) >>= _) _ _ s
    have hh1 : A.in1.handled = none := hh
    refine wpAny_bind (zip_end hh1 Z P hS hpos ?_ fun h' g ps hS' => wpAny_pure (hR h' Ts c Z.len g ps hS'))
    rcases Nat.le_total xs.size ys.size with q | q
    · exact .inl (by rw [hn, Nat.min_eq_left q]; simp)
    · exact .inr (by rw [hn, Nat.min_eq_right q]; simp)
  | succ d ih =>
    intro k Ts s c hd hk Z hS hR
    have hlt : k < n := by omega
    have hx : k < xs.size := by omega
    have hy : k < ys.size := by omega
    refine codeAny_builtin PySem.F.entry_extend_loop ?_
    rw [Around.under_plainId PySem.F.plain_extend_loop _]
    show wpAny _ A.in1 (pyNext (.ref z) >>= _) _ _ s
    refine wpAny_bind (zip_item Z P hS (Array.getElem?_eq_getElem hx) (Array.getElem?_eq_getElem hy) fun h' T Z' hS' => ?_)
    show wpAny _ A.in1 (updateSeq S (·.push (Value.ref T)) >>= _) _ _ _
    refine wpAny_bind ?_
    have hl := Z.len
    have up := PySem.IsL.update hS' (fun xs => xs.push (Value.ref T))
    have e1 : (List.toArray (Ts.map Value.ref)).push (Value.ref T) = List.toArray ((Ts ++ [T]).map Value.ref) := by rw [List.push_toArray, List.map_append]; rfl
    rw [e1] at up
    refine wpAny_updateSeq hS' rfl (wpAny_pure ⟨plainId_quiet PySem.F.plain_extend_loop _, ih (k + 1) (Ts ++ [T]) _ _ (by omega) hlt (Z'.keep P fun c o ne e => (Heap.get?_update_other _ _ (Ne.symm ne)).trans e) up hR⟩) ?_ ?_
    · simp; rw [sizeLine_eq]; omega
    · simp; rw [sizeLine_eq]; omega
end
end Mine
/-! part MR -/
namespace Mine
open PySem PySem.W PyProof.Rows

section
variable {prog : Program} {w : World} {cls : Nat → Addr} {h₀ : Heap} {ad : Ad} {hf : Fz} {σ : Sto} {A : Around} {E : Value → Shared → Prop} {s : Shared} {h0 h h' : Heap} {z TI TO i1 i2 l1 l2 S : Addr} {xs ys : Array Value} {k : Nat} {Ts : List Addr}

theorem zip_extend {n : Nat} (hh : A.handled = none) (P : ZAp h0 z TI TO i1 i2 l1 l2 S) (hn : n = min xs.size ys.size) (hpos : 0 < n) (hfit : n ≤ 1000000) (res : Value) {R : Result → Shared → Prop} {c : Nat}
    (Z : ZSt h0 s.heap z TI TO i1 i2 l1 l2 S xs ys 0 []) (hS : s.heap.get? S = some (lstO [] c))
    (hR : ∀ (h' : Heap) (Ts : List Addr) (c' : Nat), Ts.length = n → Grow h0 h' → (∀ (j : Nat) T, Ts[j]? = some T → h0.get? T = none ∧ ∃ x y, xs[j]? = some x ∧ ys[j]? = some y ∧ h'.get? T = some (pairO x y)) → h'.get? S = some (lstO (Ts.map Value.ref) c') → R (.ok (.ret res)) { s with heap := h' }) :
    wpAny (model prog w) A.in1 (Builtin.List.listExtendWith (.ref S) (.ref z) res)
      (fun fin s' => match fin with | .done f => R (.ok f) s' | .again c' => c'.quiet = true ∧ codeAny (model prog w) A c' R s') (fun e s' => R (.error e) s') s := by
  have hT := Z.type
  unfold Builtin.List.listExtendWith
  refine wpAny_bind (wpAny_typeOf hT ?_)
  have h1 : Builtin.List.listSameRef (.ref S) (.ref z) = false := by simp [Builtin.List.listSameRef, P.s1.symm]
  have h2 : (Value.type "zip" == Value.type "list") = false := by decide
  have h3 : (Value.type "zip" == Value.type "tuple") = false := by decide
  simp only [h1, h2, h3, Bool.or_false, Bool.false_eq_true, if_false]
  have hz : s.heap.get? z = some (zObj .none false TI TO) := by
    rcases Z.mode with ⟨_, a, _⟩ | ⟨q, _⟩
    · exact a
    · cases q
  refine wpAny_bind (wpAny_pyIter_zip hz ?_)
  refine wpAny_bind (wpAny_holding ?_)
  unfold Builtin.List.listLengthHint
  refine wpAny_bind (wpAny_specialOf hT zip_no_len ?_)
  show wpAny _ A.in1 (specialOf (Value.ref z) (Str.ofString "__length_hint__") >>= _) _ _ _
  refine wpAny_bind (wpAny_specialOf hT zip_no_hint ?_)
  refine wpAny_pure ?_
  show wpAny _ A.in1 (rule "list.extend.makes-room" >>= fun _ => Builtin.List.listTouch (.ref S) >>= fun _ =>
    again (.builtin "list.extend.loop" ⟨[.ref S, .ref z, res], []⟩)) _ _ _
  refine wpAny_bind (wpAny_rule ?_)
  refine wpAny_bind ?_
  show wpAny _ A.in1 (updateSeq S (·.push .none) >>= fun _ => updateSeq S (·.pop)) _ _ _
  refine wpAny_bind (wpAny_updateSeq hS rfl ?_)
  have hS₂ := PySem.IsL.update hS (·.push Value.none)
  refine wpAny_updateSeq (hz := by seq_fits) hS₂ rfl ?_
  have hS₃ := PySem.IsL.update hS₂ (·.pop)
  have oth : ∀ b o, b ≠ S → s.heap.get? b = some o → ((s.heap.update S (Obj.mapSeq (·.push Value.none))).update S (Obj.mapSeq (·.pop))).get? b = some o :=
    fun b o hb e => (Heap.get?_update_other _ _ (Ne.symm hb)).trans ((Heap.get?_update_other _ _ (Ne.symm hb)).trans e)
  refine wpAny_pure ⟨plainId_quiet PySem.F.plain_extend_loop _, zip_loop hh P hn hpos hfit res n 0 [] _ _ rfl (Nat.zero_le _) (Z.keep P oth) hS₃ hR⟩
theorem call_list_zip {n : Nat} {Q : Value → Shared → Prop} (hh : A.handled = none) (P : ZAp h0 z TI TO i1 i2 l1 l2 s.heap.objs.size) (hn : n = min xs.size ys.size) (hpos : 0 < n) (hfit : n ≤ 1000000)
    (Z : ZSt h0 s.heap z TI TO i1 i2 l1 l2 s.heap.objs.size xs ys 0 [])
    (hQ : ∀ (h' : Heap) (Ts : List Addr) (c' : Nat), Ts.length = n → Grow h0 h' → (∀ (j : Nat) T, Ts[j]? = some T → h0.get? T = none ∧ ∃ x y, xs[j]? = some x ∧ ys[j]? = some y ∧ h'.get? T = some (pairO x y)) → h'.get? s.heap.objs.size = some (lstO (Ts.map Value.ref) c') → Q (.ref s.heap.objs.size) { s with heap := h' }) :
    wpAny (model prog w) A (call (.type "list") [.ref z]) Q E s := by
  refine callType_codes (Q₁ := fun obj s₁ => obj = .ref s.heap.objs.size ∧ s₁ = { s with heap := s.heap.push { cls := .type "list", data := .seq #[] } }) PySem.F.called_list (PySem.F.typeCall_list_1 _) PySem.F.entry_list_init
    (code_list_new _ ⟨rfl, rfl⟩) fun obj s₁ h₁ => ?_
  obtain ⟨rfl, rfl⟩ := h₁
  have hS : (s.heap.push { cls := .type "list", data := .seq #[] }).get? s.heap.objs.size = some (lstO [] 0) := Heap.get?_push_size _ rfl
  refine ⟨⟨_, hS, rfl⟩, PySem.F.args_list_init_2 _ _, ?_⟩
  show wpAny _ _ (do let old ← Builtin.List.listItems (.ref s.heap.objs.size); Builtin.List.listUpdate (.ref s.heap.objs.size) (fun _ => #[]); letGo old.toList.reverse; Builtin.List.listExtendWith (.ref s.heap.objs.size) (.ref z) .none) _ _ _
  refine wpAny_bind ?_
  unfold Builtin.List.listItems
  refine wpAny_bind (wpAny_seqItems hS rfl (wpAny_pure ?_))
  show wpAny _ _ (updateSeq s.heap.objs.size (fun _ => #[]) >>= fun _ => letGo (#[] : Array Value).toList.reverse >>= fun _ => Builtin.List.listExtendWith (.ref s.heap.objs.size) (.ref z) .none) _ _ _
  refine wpAny_bind (wpAny_updateSeq hS rfl ?_)
  have hS₂ := PySem.IsL.update hS (fun _ => (#[] : Array Value))
  refine wpAny_bind (wpAny_letGo ?_)
  refine zip_extend ?_ P hn hpos hfit .none ?_ hS₂ fun h' Ts c' a1 a2 a3 a4 => ⟨rfl, hQ h' Ts c' a1 a2 a3 a4⟩
  · exact hh
  · exact Z.keep P fun b o hb e => (Heap.get?_update_other _ _ (Ne.symm hb)).trans (Heap.get?_push_of_some _ e)

/-! many new frozen objects -/
noncomputable def fset (hf : Fz) (h : Heap) (L : List Addr) : Fz := fun a => match hf a with
  | some o => some o
  | none => if L.contains a then h.get? a else none
theorem fset_mono {L : List Addr} : ∀ a o, hf a = some o → fset hf h L a = some o := fun a o e => by unfold fset; rw [e]
theorem fset_new {L : List Addr} {a : Addr} {o : Obj} (n : hf a = none) (m : a ∈ L) (e : h.get? a = some o) : fset hf h L a = some o := by
  unfold fset; rw [n]
  have : L.contains a = true := by simpa using m
  simp only [this, if_true]; exact e
theorem fset_out {L : List Addr} {a : Addr} (n : hf a = none) (m : a ∉ L) : fset hf h L a = none := by
  unfold fset; rw [n]
  have : L.contains a = false := by simpa using m
  simp only [this, Bool.false_eq_true, if_false]
theorem Sit.freezeAll {g h : Heap} {L : List Addr} (S : Sit prog w cls h₀ ad hf σ g) (gr : Grow g h) (new : ∀ a ∈ L, g.get? a = none) : Sit prog w cls h₀ ad (fset hf h L) σ h ∧ Ext ad hf g ad (fset hf h L) h := by
  have S' := S.grow gr
  have mono := fset_mono (hf := hf) (h := h) (L := L)
  refine ⟨⟨fun a o e => mono a o (S.base a o e), fun a o e => ?_, S.len, fun i p o e q => (S'.ob i p o e q).mono (pre_refl _) mono, fun p hp => ?_, S.dj⟩, mono, fun a o e _ n => ?_, ⟨[], (List.append_nil _).symm, fun _ hp => nomatch hp⟩, fun a o e _ => gr a o e, fun a o e => ⟨o, gr a o e⟩⟩
  · unfold fset at e
    split at e
    · rename_i o' q; cases e; exact S'.fro a _ q
    · split at e
      · exact e
      · cases e
  · have ex : (∃ o, g.get? p.1 = some o) ∧ ∃ o, g.get? p.2 = some o := by
      constructor
      · cases q : g.get? p.1 with
        | some o => exact ⟨o, rfl⟩
        | none => exact absurd rfl ((S.fresh q).2 p hp).1
      · cases q : g.get? p.2 with
        | some o => exact ⟨o, rfl⟩
        | none => exact absurd rfl ((S.fresh q).2 p hp).2
    obtain ⟨⟨o1, e1⟩, o2, e2⟩ := ex
    exact ⟨fset_out (S.pr p hp).1 (fun m => by rw [new _ m] at e1; cases e1), fset_out (S.pr p hp).2 (fun m => by rw [new _ m] at e2; cases e2)⟩
  · exact fset_out n (fun m => by rw [new _ m] at e; cases e)
theorem VRels.of_get : ∀ {l : List AV} {vs : List Value}, l.length = vs.length → (∀ (i : Nat) a v, l[i]? = some a → vs[i]? = some v → VRel prog w ad hf a v) → VRels prog w ad hf l vs
  | [], [], _, _ => VRels.nil
  | a :: l, v :: vs, h, g => VRels.cons (g 0 a v rfl rfl) (VRels.of_get (Nat.succ.inj h) fun i b u e e' => g (i + 1) b u e e')
  | [], _ :: _, h, _ => by cases h
  | _ :: _, [], h, _ => by cases h
theorem zipL_length : ∀ l m : List AV, (zipL l m).length = min l.length m.length
  | [], [] => rfl
  | [], _ :: _ => by simp [zipL]
  | _ :: _, [] => by simp [zipL]
  | a :: l, b :: m => by rw [zipL, List.length_cons, zipL_length l m, List.length_cons, List.length_cons, Nat.succ_min_succ]
theorem zipL_get : ∀ {l m : List AV} {i : Nat} {a : AV}, (zipL l m)[i]? = some a → ∃ b c, l[i]? = some b ∧ m[i]? = some c ∧ a = .tup [b, c]
  | [], [], i, a, e => by simp [zipL] at e
  | [], _ :: _, i, a, e => by simp [zipL] at e
  | _ :: _, [], i, a, e => by simp [zipL] at e
  | b :: l, c :: m, 0, a, e => by cases e; exact ⟨b, c, rfl, rfl, rfl⟩
  | b :: l, c :: m, i + 1, a, e => zipL_get (l := l) (m := m) (i := i) e

/-- what a fresh list gives, when more objects were made -/
noncomputable abbrev YQ (prog : Program) (w : World) (cls : Nat → Addr) (h₀ : Heap) (ad : Ad) (hf : Fz) (s : Shared) (l : List AV) (σ' : Sto) (Q : Value → Shared → Prop) : Prop :=
  ∀ a vs n h' tk ad' hf', Sit prog w cls h₀ ad' hf' σ' h' → Ext ad hf s.heap ad' hf' h' → s.heap.get? a = none → hf' a = none → Off ad' a → h'.get? a = some (lstO vs n) → VRels prog w ad' hf' l vs → Q (.ref a) { s with heap := h', toks := tk }
theorem YQ.fresh {l : List AV} {Q : Value → Shared → Prop} (S : Sit prog w cls h₀ ad hf σ s.heap) (h : YQ prog w cls h₀ ad hf s l σ Q) : FreshQ prog w ad hf s l Q := fun a vs n h' tk g e o R =>
  h a vs n h' tk ad hf (S.grow g) g.ext e (S.fresh e).1 (S.fresh e).2 o R
theorem prim_zip {a b : AV} {l m : List AV} {u v : Value} {Q : Value → Shared → Prop} (hh : A.handled = none) (S : Sit prog w cls h₀ ad hf σ s.heap) (hfit : fits (a :: l) = true) (ha : VRel prog w ad hf (.tup (a :: l)) u) (hb : VRel prog w ad hf (.tup (b :: m)) v)
    (h : YQ prog w cls h₀ ad hf s (zipL (a :: l) (b :: m)) σ Q) : wpAny (model prog w) A (call (.type "zip") [u, v]) (fun z s₁ => wpAny (model prog w) A (call (.type "list") [z]) Q E s₁) E s := by
  have hl := fits_len hfit
  obtain ⟨l1, vs, rfl, T1, R1⟩ := hfTup S ha
  obtain ⟨l2, us, rfl, T2, R2⟩ := hfTup S hb
  obtain ⟨o1, e1, _⟩ := id T1
  obtain ⟨o2, e2, _⟩ := id T2
  have lt1 : @LT.lt Nat _ l1 s.heap.objs.size := Heap.lt_size e1
  have lt2 : @LT.lt Nat _ l2 s.heap.objs.size := Heap.lt_size e2
  have len1 := R1.length
  have len2 := R2.length
  refine call_zipT T1 T2 fun h' z TI TO i1 i2 ez eTI eTO ei1 ei2 hz hTI hTO hi1 hi2 g hsz => ?_
  have T1' : h'.IsTuple l1 (List.toArray vs) := let ⟨o, e, r⟩ := T1; ⟨o, g _ _ e, r⟩
  have T2' : h'.IsTuple l2 (List.toArray us) := let ⟨o, e, r⟩ := T2; ⟨o, g _ _ e, r⟩
  have eS : h'.objs.size = s.heap.objs.size + 5 := hsz
  have ez : @Eq Nat z (s.heap.objs.size + 4) := ez
  have eTI : @Eq Nat TI (s.heap.objs.size + 2) := eTI
  have eTO : @Eq Nat TO (s.heap.objs.size + 3) := eTO
  have ei1 : @Eq Nat i1 s.heap.objs.size := ei1
  have ei2 : @Eq Nat i2 (s.heap.objs.size + 1) := ei2
  have D : ZipApart z TI TO i1 i2 l1 l2 := by
    constructor <;> (intro q; have q : @Eq Nat _ _ := q; omega)
  have P : ZAp s.heap z TI TO i1 i2 l1 l2 h'.objs.size := by
    have le : ∀ x : Addr, x = z ∨ x = TI ∨ x = TO ∨ x = i1 ∨ x = i2 ∨ x = h'.objs.size → @LE.le Nat _ s.heap.objs.size x := fun x hx => by
      rcases hx with hx | hx | hx | hx | hx | hx <;> (have hx : @Eq Nat _ _ := hx; omega)
    refine ⟨D, ?_, ?_, ?_, ?_, ?_, ?_, ?_, fun x hx => Heap.get?_none_of_le (le x hx)⟩
    all_goals (intro q; have q : @Eq Nat _ _ := q; omega)
  have Z : ZSt s.heap h' z TI TO i1 i2 l1 l2 h'.objs.size (List.toArray vs) (List.toArray us) 0 [] :=
    ⟨g, .inl ⟨rfl, hz, hTI, ⟨_, _, hTO⟩, hi1, hi2, T1', T2'⟩, rfl, fun j T e => by cases e⟩
  have nS : s.heap.get? h'.objs.size = none := Heap.get?_none_of_le (by omega)
  refine call_list_zip (s := { s with heap := h' }) hh P rfl (by simp; rw [← len1, ← len2]; simp) (by simp; omega) Z fun h'' Ts c' hlen gr ps hS => ?_
  obtain ⟨S', X'⟩ := S.freezeAll (L := Ts) gr fun x hx => by
    obtain ⟨j, hj⟩ := List.getElem?_of_mem hx
    exact (ps j x hj).1
  have nT : h'.objs.size ∉ Ts := fun hx => by
    obtain ⟨j, hj⟩ := List.getElem?_of_mem hx
    obtain ⟨_, x, y, _, _, q⟩ := ps j _ hj
    rw [hS] at q
    have := congrArg Obj.cls (Option.some.inj q)
    simp at this
  obtain ⟨fS1, fS2⟩ := S.fresh nS
  refine h _ (Ts.map Value.ref) c' h'' s.toks ad _ S' X' nS (fset_out fS1 nT) fS2 hS (VRels.of_get ?_ fun i x t ex et => ?_)
  · rw [zipL_length, List.length_map, hlen, len1, len2]; simp
  · rw [List.getElem?_map] at et
    obtain ⟨T, hT, rfl⟩ := Option.map_eq_some_iff.mp et
    obtain ⟨nT0, x', y', q1, q2, q3⟩ := ps i T hT
    obtain ⟨b1, c1, z1, z2, rfl⟩ := zipL_get ex
    obtain ⟨v1, w1, V1⟩ := R1.get z1
    obtain ⟨v2, w2, V2⟩ := R2.get z2
    have e1 : x' = v1 := by have : vs[i]? = some x' := by simpa using q1
                            rw [w1] at this; exact (Option.some.inj this).symm
    have e2 : y' = v2 := by have : us[i]? = some y' := by simpa using q2
                            rw [w2] at this; exact (Option.some.inj this).symm
    subst e1 e2
    rw [VRel]
    refine ⟨T, [x', y'], 0, rfl, fset_new (S.fresh nT0).1 (List.mem_of_getElem? hT) q3, ?_⟩
    exact VRels.cons (V1.mono X'.pre X'.hm) (VRels.one (V2.mono X'.pre X'.hm))
end
end Mine
/-! part MS -/
namespace Mine
open PySem PySem.W PyProof.Rows

section
variable {prog : Program} {w : World} {cls : Nat → Addr} {h₀ : Heap} {ad : Ad} {hf : Fz} {σ σ' : Sto} {A : Around} {s : Shared}

theorem bindL_out {kf : Str → Option NameKind} {y : Str} : ∀ {b : List (Str × Value)} {m : Str → Option Value}, (∀ p ∈ b, p.1 ≠ y) → bindL kf b m y = m y
  | [], _, _ => rfl
  | (n, v) :: r, m, h => by
    rw [bindL, bindL_out (fun p hp => h p (List.mem_cons_of_mem _ hp))]
    have := h (n, v) List.mem_cons_self
    split
    · exact if_neg (Ne.symm this)
    · rfl
theorem bindC_out {kf : Str → Option NameKind} {y : Str} : ∀ {b : List (Str × Value)} {m : Str → Option Value}, (∀ p ∈ b, p.1 ≠ y) → bindC kf b m y = m y
  | [], _, _ => rfl
  | (n, v) :: r, m, h => by
    rw [bindC, bindC_out (fun p hp => h p (List.mem_cons_of_mem _ hp))]
    have := h (n, v) List.mem_cons_self
    split
    · rfl
    · exact if_neg (Ne.symm this)
noncomputable abbrev bindsOf (ks : List Nat) (vals : List Value) : List (Str × Value) := (ks.map Wn).zip vals
theorem bindsOf_mem {ks : List Nat} {vals : List Value} {p : Str × Value} (h : p ∈ bindsOf ks vals) : ∃ k ∈ ks, p.1 = Wn k := by
  have := (List.of_mem_zip h).1
  obtain ⟨k, hk, e⟩ := List.mem_map.mp this
  exact ⟨k, hk, e.symm⟩
theorem bind_look {kf : Str → Option NameKind} : ∀ {ks : List Nat} {l : List AV} {vals : List Value} {ρ : Loc} {m cm : Str → Option Value}, bindAll ks l = some ρ → VRels prog w ad hf l vals → nodupN ks = true → (∀ k ∈ ks, k < wmax) →
    ∀ k u, look k ρ = some u → ∃ a v, u = .val a ∧ VRel prog w ad hf a v ∧ k ∈ ks ∧ (kf (Wn k) = some .local → bindL kf (bindsOf ks vals) m (Wn k) = some v) ∧ (kf (Wn k) = some .cell → bindC kf (bindsOf ks vals) cm (Wn k) = some v)
  | [], l, vals, ρ, m, cm, e, _, _, _, k, u, q => by
    cases l with
    | nil => cases e; cases q
    | cons _ _ => cases e
  | j :: ks, l, vals, ρ, m, cm, e, V, nd, hw, k, u, q => by
    cases l with
    | nil => cases e
    | cons a l =>
      obtain ⟨ρ', e', rfl⟩ := Option.map_eq_some_iff.mp e
      rw [VRels] at V
      obtain ⟨v, us, rfl, V1, V2⟩ := V
      simp only [nodupN, Bool.and_eq_true, Bool.not_eq_true'] at nd
      have hj := hw j List.mem_cons_self
      unfold look at q
      show ∃ a v', u = .val a ∧ VRel prog w ad hf a v' ∧ k ∈ j :: ks ∧ (kf (Wn k) = some .local → bindL kf ((Wn j, v) :: bindsOf ks us) m (Wn k) = some v') ∧ (kf (Wn k) = some .cell → bindC kf ((Wn j, v) :: bindsOf ks us) cm (Wn k) = some v')
      by_cases z : j = k
      · subst z
        rw [if_pos rfl] at q; cases q
        have out : ∀ p ∈ bindsOf ks us, p.1 ≠ Wn j := fun p hp y => by
          obtain ⟨i, hi, ei⟩ := bindsOf_mem hp
          have := Wn_inj (hw i (List.mem_cons_of_mem _ hi)) hj (ei.symm.trans y)
          subst this
          rw [List.contains_eq_mem] at nd
          simp [hi] at nd
        refine ⟨a, v, rfl, V1, List.mem_cons_self, fun y => ?_, fun y => ?_⟩
        · rw [bindL, bindL_out out, if_pos y]; exact if_pos rfl
        · rw [bindC, bindC_out out, if_neg (by rw [y]; intro t; cases t)]; exact if_pos rfl
      · rw [if_neg z] at q
        obtain ⟨b, v', rfl, h1, hk, h2, h3⟩ := bind_look e' V2 nd.2 (fun i hi => hw i (List.mem_cons_of_mem _ hi)) k u q
        exact ⟨b, v', rfl, h1, List.mem_cons_of_mem _ hk, fun y => by rw [bindL]; exact h2 y, fun y => by rw [bindC]; exact h3 y⟩
theorem cells_acc {x : Str} : ∀ {names : List (Str × NameKind)} {n : Nat} {acc : List (Str × Addr)}, (acc.lookup x).isSome = true → ((cellsFrom n names acc).lookup x).isSome = true
  | [], _, _, h => h
  | (y, kd) :: r, n, acc, h => by
    unfold cellsFrom
    split
    · refine cells_acc ?_
      rw [List.lookup_cons]
      split
      · rfl
      · exact h
    · exact cells_acc h
theorem cells_has {x : Str} : ∀ {names : List (Str × NameKind)} {n : Nat} {acc : List (Str × Addr)}, names.lookup x = some .cell → ((cellsFrom n names acc).lookup x).isSome = true
  | [], _, _, h => by cases h
  | (y, kd) :: r, n, acc, h => by
    rw [List.lookup_cons] at h
    unfold cellsFrom
    cases q : x == y with
    | true =>
      rw [q] at h
      cases h
      refine cells_acc (names := r) ?_
      rw [List.lookup_cons, q]; rfl
    | false =>
      rw [q] at h
      split
      · exact cells_has h
      · exact cells_has h
theorem pair_inj {x y : Str} {c : Addr} : ∀ {l : List (Str × Addr)}, l.Pairwise (fun p q => p.2 ≠ q.2) → (x, c) ∈ l → (y, c) ∈ l → x = y
  | [], _, h, _ => by cases h
  | p :: l, hp, h1, h2 => by
    obtain ⟨a, b⟩ := List.pairwise_cons.mp hp
    rcases List.mem_cons.mp h1 with e1 | m1
    · rcases List.mem_cons.mp h2 with e2 | m2
      · exact congrArg Prod.fst (e1.trans e2.symm)
      · exact (a (y, c) m2 (by rw [← e1])).elim
    · rcases List.mem_cons.mp h2 with e2 | m2
      · exact (a (x, c) m1 (by rw [← e2])).elim
      · exact pair_inj b m1 m2

structure FnOk (fd : FuncData) (ks : List Nat) (body : List Stmt) : Prop where
  body : fd.body = .stmts body
  clo : fd.closure = []
  glob : fd.globals = mainGlobals
  blt : fd.builtins = builtinsNs
  co : fd.scope.isCoroutine = false
  gen : fd.scope.isGenerator = false
  kind : fd.scope.kind = .function
  free : ∀ x, fd.scope.names.lookup x ≠ some .free
  par : ∀ k ∈ ks, k < wmax ∧ (fd.scope.names.lookup (Wn k) = some .local ∨ fd.scope.names.lookup (Wn k) = some .cell)
  nd : nodupN ks = true
  bind : ∀ vals : List Value, vals.length = ks.length → bindArgs fd ⟨vals, []⟩ = pure (bindsOf ks vals)
theorem bindAll_length : ∀ {ks : List Nat} {l : List AV} {ρ : Loc}, bindAll ks l = some ρ → ks.length = l.length
  | [], [], _, _ => rfl
  | [], _ :: _, _, e => by cases e
  | _ :: _, [], _, e => by cases e
  | k :: ks, a :: l, ρ, e => by
    obtain ⟨ρ', e', _⟩ := Option.map_eq_some_iff.mp e
    exact congrArg (· + 1) (bindAll_length e')
theorem call_fn {cf : Callf} {tb : Nat → Option AV} {a : Addr} {o : Obj} {fd : FuncData} {ks : List Nat} {b : List S} {body : List Stmt} {l : List AV} {r : AV} {vals : List Value} {R : Result → Shared → Prop}
    (hroom : A.depth < recursionLimit) (ho : s.heap.get? a = some o) (hdata : o.data = .func fd) (hlim : s.heap.NoLimit) (hcd : s.heap.CodeRec fd.code fd.qualname) (ok : FnOk fd ks body)
    (S : Sit prog w cls h₀ ad hf σ s.heap) (V : VRels prog w ad hf l vals) (e : runF cf tb ks b l σ = some (r, σ'))
    (hb : ∀ L, BodyOk prog w cls h₀ (callEnvC fd L a) (A.deeper (callEnvC fd L a)) (evSs cf tb b) body)
    (fin : ∀ v h' tk ad' hf', Sit prog w cls h₀ ad' hf' σ' h' → Ext ad hf s.heap ad' hf' h' → VRel prog w ad' hf' r v → R (.ok (.ret v)) { s with heap := h', toks := tk }) :
    codeAny (model prog w) A (.call (.ref a) ⟨vals, []⟩) R s := by
  unfold runF at e
  obtain ⟨ρ, hρ, e⟩ := Option.bind_eq_some_iff.mp e
  obtain ⟨out, ho', e⟩ := Option.map_eq_some_iff.mp e
  have hlen : vals.length = ks.length := by rw [← V.length, bindAll_length hρ]
  refine codeAny_call_cells hroom ho hdata hlim hcd ok.body (ok.bind vals hlen) ok.clo (fun x hx => ?_) (fun s₁ X => ?_) ok.co ok.gen ok.kind
  · obtain ⟨k, hk, ek⟩ := bindsOf_mem hx
    rw [ek]
    rcases (ok.par k hk).2 with q | q
    · exact .inl q
    · exact .inr ⟨q, cells_has q⟩
  · generalize hL : s.heap.objs.size = L at X ⊢
    have nL : s.heap.get? L = none := hL ▸ size_none _
    obtain ⟨⟨h₁, tk₁, rfl⟩, hns, keep, _⟩ := X.toInCall
    have g : Grow s.heap h₁ := keep
    have cellN : ∀ x c, (callEnvC fd L a).cells.lookup x = some c → s.heap.get? c = none ∧ c ≠ L := fun x c q => by
      have := X.above x c (mem_of_lookup q)
      have this : @LT.lt Nat _ L c := this
      exact ⟨Heap.get?_none_of_le (by rw [hL]; exact Nat.le_of_lt this), Nat.ne_of_gt this⟩
    have F : Fra prog w s.heap.get? (callEnvC fd L a) ρ ad hf h₁ (bindL (callEnvC fd L a).kindOf (bindsOf ks vals) fun _ => none) (fun _ => 0) := by
      refine ⟨ok.kind, ok.glob, ok.blt, hns, fun k u q hk => ?_, fun y hy => ?_, S.fresh nL, fun x c q => ?_, fun x y c q q' => ?_, fun k l' q _ => ?_, fun j k l1 l2 q => ?_⟩
      · obtain ⟨a', v, rfl, V1, hk', h1, h2⟩ := bind_look (kf := (callEnvC fd L a).kindOf) (m := fun _ => none) (cm := fun _ => none) hρ V ok.nd (fun k hk => (ok.par k hk).1) k u q
        refine ⟨v, ⟨h1, fun z => ?_⟩, V1⟩
        rcases z with z | z
        · have hs := cells_has (n := L + 1) (acc := []) z
          obtain ⟨c, hc⟩ := Option.isSome_iff_exists.mp hs
          refine ⟨c, hc, ?_⟩
          have := X.cell (Wn k) c hc
          rw [h2 z] at this; exact this
        · exact absurd z (ok.free _)
      · rcases hy with z | z
        · have hs := cells_has (n := L + 1) (acc := []) z
          obtain ⟨c, hc⟩ := Option.isSome_iff_exists.mp hs
          exact ⟨c, _, hc, X.cell y c hc⟩
        · exact absurd z (ok.free _)
      · obtain ⟨n1, n2⟩ := cellN x c q
        exact ⟨(S.fresh n1).1, (S.fresh n1).2, n2, _, X.cell x c q⟩
      · exact pair_inj X.apart (mem_of_lookup q) (mem_of_lookup q')
      · obtain ⟨a', v, z, _⟩ := bind_look (kf := (callEnvC fd L a).kindOf) (m := fun _ => none) (cm := fun _ => none) hρ V ok.nd (fun k hk => (ok.par k hk).1) k _ q
        cases z
      · obtain ⟨a', v, z, _⟩ := bind_look (kf := (callEnvC fd L a).kindOf) (m := fun _ => none) (cm := fun _ => none) hρ V ok.nd (fun k hk => (ok.par k hk).1) j _ q
        cases z
    have fr : FreshE s.heap.get? (callEnvC fd L a) := ⟨nL, fun _ x c q => (cellN x c q).1⟩
    refine hb L ad hf s.heap.get? ρ σ out _ _ _ fr ho' ⟨ad, hf, _, _, S.grow g, F, g.ext⟩ ?_
    cases out with
    | next ρ' σ₂ =>
      cases e
      intro h tk ⟨ad', hf', m', oa', S', F', X'⟩
      exact fin .none h tk ad' hf' S' X' (by rw [VRel])
    | ret a' σ₂ =>
      cases e
      exact fun h tk v ρ' ad' hf' m' oa' S' F' X' V' => fin v h tk ad' hf' S' X' V'
end
end Mine
/-! part MU -/
namespace Mine
open PySem PySem.W PyProof.Rows

/-! views of the program's tree -/
noncomputable def onB {α : Type} (o : Option α) (f : α → Bool) : Bool := match o with
  | some x => f x
  | none => false
theorem ffB {P : Prop} (h : false = true) : P := Bool.noConfusion h
theorem onB_is {α : Type} {o : Option α} {f : α → Bool} (h : onB o f = true) : ∃ x, o = some x ∧ f x = true := by
  cases o with
  | none => exact ffB h
  | some x => exact ⟨x, rfl, h⟩
noncomputable def oneB {α : Type} (l : List α) (f : α → Bool) : Bool := match l with
  | [x] => f x
  | _ => false
theorem oneB_is {α : Type} {l : List α} {f : α → Bool} (h : oneB l f = true) : ∃ x, l = [x] ∧ f x = true := by
  cases l with
  | nil => exact ffB h
  | cons x r => cases r with
    | nil => exact ⟨x, rfl, h⟩
    | cons _ _ => exact ffB h
noncomputable def twoB {α : Type} (l : List α) (f : α → α → Bool) : Bool := match l with
  | [x, y] => f x y
  | _ => false
theorem twoB_is {α : Type} {l : List α} {f : α → α → Bool} (h : twoB l f = true) : ∃ x y, l = [x, y] ∧ f x y = true := by
  cases l with
  | nil => exact ffB h
  | cons x r => cases r with
    | nil => exact ffB h
    | cons y r => cases r with
      | nil => exact ⟨x, y, rfl, h⟩
      | cons _ _ => exact ffB h
noncomputable def nilO {α β : Type} (l : List α) (b : Option β) : Option β := match l with
  | [] => b
  | _ => none
theorem noV {α : Type} {x : Option α} {y : α} {P : Prop} (h : x = some y) (q : x = none) : P := by subst q; cases h
theorem nilO_is {α β : Type} {l : List α} {o : Option β} {b : β} (h : nilO l o = some b) : l = [] ∧ o = some b := by
  cases l with
  | nil => exact ⟨rfl, h⟩
  | cons _ _ => exact noV h rfl
noncomputable def oneO {α β : Type} (l : List α) (f : α → Option β) : Option β := match l with
  | [x] => f x
  | _ => none
theorem oneO_is {α β : Type} {l : List α} {f : α → Option β} {b : β} (h : oneO l f = some b) : ∃ x, l = [x] ∧ f x = some b := by
  cases l with
  | nil => exact noV h rfl
  | cons x r => cases r with
    | nil => exact ⟨x, rfl, h⟩
    | cons _ _ => exact noV h rfl
noncomputable def vConst (e : Expr) : Option Const := if h : e.ctorIdx = 19 then Expr.Constant.elim (motive_1 := fun _ => Option Const) e h fun c k p => some c else none
theorem vConst_is {e : Expr} {c : Const} (h : vConst e = some c) : ∃ k p, e = .Constant c k p := by
  by_cases hc : e.ctorIdx = 19
  · refine Expr.Constant.elim (motive_1 := fun e => vConst e = some c → ∃ k p, e = .Constant c k p) e hc (fun c k p h => ?_) h
    replace h : some _ = some _ := h
    cases h; exact ⟨k, p, rfl⟩
  · exact noV h (dif_neg hc)
noncomputable def vName (e : Expr) : Option Str := if h : e.ctorIdx = 23 then Expr.Name.elim (motive_1 := fun _ => Option Str) e h fun n p => some n else none
theorem vName_is {e : Expr} {n : Str} (h : vName e = some n) : ∃ p, e = .Name n p := by
  by_cases hc : e.ctorIdx = 23
  · refine Expr.Name.elim (motive_1 := fun e => vName e = some n → ∃ p, e = .Name n p) e hc (fun n p h => ?_) h
    replace h : some _ = some _ := h
    cases h; exact ⟨p, rfl⟩
  · exact noV h (dif_neg hc)
noncomputable def vAttrP (e : Expr) : Option (Expr × Str × Pos) := if h : e.ctorIdx = 20 then Expr.Attribute.elim (motive_1 := fun _ => Option (Expr × Str × Pos)) e h fun o n p => some (o, n, p) else none
theorem vAttrP_is {e : Expr} {o : Expr} {n : Str} {p : Pos} (h : vAttrP e = some (o, n, p)) : e = .Attribute o n p := by
  by_cases hc : e.ctorIdx = 20
  · refine Expr.Attribute.elim (motive_1 := fun e => vAttrP e = some (o, n, p) → e = .Attribute o n p) e hc (fun o n p h => ?_) h
    replace h : some (_, _, _) = some (_, _, _) := h
    cases h; rfl
  · exact noV h (dif_neg hc)
noncomputable def vAttr (e : Expr) : Option (Expr × Str) := (vAttrP e).map fun x => (x.1, x.2.1)
theorem vAttr_is {e o : Expr} {n : Str} (h : vAttr e = some (o, n)) : ∃ p, e = .Attribute o n p := by
  obtain ⟨⟨a, b, p⟩, q, h⟩ := Option.map_eq_some_iff.mp h
  cases h; exact ⟨p, vAttrP_is q⟩
noncomputable def vTuple (e : Expr) : Option (List Expr) := if h : e.ctorIdx = 25 then Expr.Tuple.elim (motive_1 := fun _ => Option (List Expr)) e h fun es k p => some es else none
theorem vTuple_is {e : Expr} {es : List Expr} (h : vTuple e = some es) : ∃ k p, e = .Tuple es k p := by
  by_cases hc : e.ctorIdx = 25
  · refine Expr.Tuple.elim (motive_1 := fun e => vTuple e = some es → ∃ k p, e = .Tuple es k p) e hc (fun es k p h => ?_) h
    replace h : some _ = some _ := h
    cases h; exact ⟨k, p, rfl⟩
  · exact noV h (dif_neg hc)
noncomputable def vList (e : Expr) : Option (List Expr) := if h : e.ctorIdx = 24 then Expr.List.elim (motive_1 := fun _ => Option (List Expr)) e h fun es p => some es else none
theorem vList_is {e : Expr} {es : List Expr} (h : vList e = some es) : ∃ p, e = .List es p := by
  by_cases hc : e.ctorIdx = 24
  · refine Expr.List.elim (motive_1 := fun e => vList e = some es → ∃ p, e = .List es p) e hc (fun es p h => ?_) h
    replace h : some _ = some _ := h
    cases h; exact ⟨p, rfl⟩
  · exact noV h (dif_neg hc)
noncomputable def vDict (e : Expr) : Option (List (Option Expr) × List Expr) := if h : e.ctorIdx = 6 then Expr.Dict.elim (motive_1 := fun _ => Option (List (Option Expr) × List Expr)) e h fun ks vs p => some (ks, vs) else none
theorem vDict_is {e : Expr} {ks : List (Option Expr)} {vs : List Expr} (h : vDict e = some (ks, vs)) : ∃ p, e = .Dict ks vs p := by
  by_cases hc : e.ctorIdx = 6
  · refine Expr.Dict.elim (motive_1 := fun e => vDict e = some (ks, vs) → ∃ p, e = .Dict ks vs p) e hc (fun ks vs p h => ?_) h
    replace h : some (_, _) = some (_, _) := h
    cases h; exact ⟨p, rfl⟩
  · exact noV h (dif_neg hc)
noncomputable def vBin (e : Expr) : Option (Expr × Operator × Expr) := if h : e.ctorIdx = 2 then Expr.BinOp.elim (motive_1 := fun _ => Option (Expr × Operator × Expr)) e h fun l o r p => some (l, o, r) else none
theorem vBin_is {e : Expr} {l r : Expr} {o : Operator} (h : vBin e = some (l, o, r)) : ∃ p, e = .BinOp l o r p := by
  by_cases hc : e.ctorIdx = 2
  · refine Expr.BinOp.elim (motive_1 := fun e => vBin e = some (l, o, r) → ∃ p, e = .BinOp l o r p) e hc (fun l o r p h => ?_) h
    replace h : some (_, _, _) = some (_, _, _) := h
    cases h; exact ⟨p, rfl⟩
  · exact noV h (dif_neg hc)
noncomputable def vUn (e : Expr) : Option (UnaryOp × Expr) := if h : e.ctorIdx = 3 then Expr.UnaryOp.elim (motive_1 := fun _ => Option (UnaryOp × Expr)) e h fun o x p => some (o, x) else none
theorem vUn_is {e : Expr} {x : Expr} {o : UnaryOp} (h : vUn e = some (o, x)) : ∃ p, e = .UnaryOp o x p := by
  by_cases hc : e.ctorIdx = 3
  · refine Expr.UnaryOp.elim (motive_1 := fun e => vUn e = some (o, x) → ∃ p, e = .UnaryOp o x p) e hc (fun o x p h => ?_) h
    replace h : some (_, _) = some (_, _) := h
    cases h; exact ⟨p, rfl⟩
  · exact noV h (dif_neg hc)
noncomputable def vCmp (e : Expr) : Option (Expr × CmpOp × Expr) := if h : e.ctorIdx = 15 then Expr.Compare.elim (motive_1 := fun _ => Option (Expr × CmpOp × Expr)) e h fun l os rs p => oneO os fun o => oneO rs fun r => some (l, o, r) else none
theorem vCmp_is {e : Expr} {l r : Expr} {o : CmpOp} (h : vCmp e = some (l, o, r)) : ∃ p, e = .Compare l [o] [r] p := by
  by_cases hc : e.ctorIdx = 15
  · refine Expr.Compare.elim (motive_1 := fun e => vCmp e = some (l, o, r) → ∃ p, e = .Compare l [o] [r] p) e hc (fun l os rs p h => ?_) h
    obtain ⟨o, rfl, h⟩ := oneO_is h
    obtain ⟨r, rfl, h⟩ := oneO_is h
    cases h; exact ⟨p, rfl⟩
  · exact noV h (dif_neg hc)
noncomputable def vSub (e : Expr) : Option (Expr × Expr) := if h : e.ctorIdx = 21 then Expr.Subscript.elim (motive_1 := fun _ => Option (Expr × Expr)) e h fun o i p => some (o, i) else none
theorem vSub_is {e : Expr} {o i : Expr} (h : vSub e = some (o, i)) : ∃ p, e = .Subscript o i p := by
  by_cases hc : e.ctorIdx = 21
  · refine Expr.Subscript.elim (motive_1 := fun e => vSub e = some (o, i) → ∃ p, e = .Subscript o i p) e hc (fun o i p h => ?_) h
    replace h : some (_, _) = some (_, _) := h
    cases h; exact ⟨p, rfl⟩
  · exact noV h (dif_neg hc)
noncomputable def vSlice (e : Expr) : Option (Option Expr × Option Expr) := if h : e.ctorIdx = 26 then Expr.Slice.elim (motive_1 := fun _ => Option (Option Expr × Option Expr)) e h fun l u s p => nilO s.toList (some (l, u)) else none
theorem vSlice_is {e : Expr} {l u : Option Expr} (h : vSlice e = some (l, u)) : ∃ p, e = .Slice l u none p := by
  by_cases hc : e.ctorIdx = 26
  · refine Expr.Slice.elim (motive_1 := fun e => vSlice e = some (l, u) → ∃ p, e = .Slice l u none p) e hc (fun l u s p h => ?_) h
    obtain ⟨hs, h⟩ := nilO_is h
    cases s with
    | none => cases h; exact ⟨p, rfl⟩
    | some _ => cases hs
  · exact noV h (dif_neg hc)
noncomputable def vCall (e : Expr) : Option (Str × List Expr) := if h : e.ctorIdx = 16 then Expr.Call.elim (motive_1 := fun _ => Option (Str × List Expr)) e h fun f es ks p => nilO ks ((vName f).map fun n => (n, es)) else none
theorem vCall_is {e : Expr} {n : Str} {es : List Expr} (h : vCall e = some (n, es)) : ∃ p q, e = .Call (.Name n p) es [] q := by
  by_cases hc : e.ctorIdx = 16
  · refine Expr.Call.elim (motive_1 := fun e => vCall e = some (n, es) → ∃ p q, e = .Call (.Name n p) es [] q) e hc (fun f es ks p h => ?_) h
    obtain ⟨rfl, h⟩ := nilO_is h
    obtain ⟨m, q, h⟩ := Option.map_eq_some_iff.mp h
    obtain ⟨p', rfl⟩ := vName_is q
    cases h; exact ⟨p', p, rfl⟩
  · exact noV h (dif_neg hc)
noncomputable def vMeth (e : Expr) : Option (Expr × Str × List Expr) := if h : e.ctorIdx = 16 then Expr.Call.elim (motive_1 := fun _ => Option (Expr × Str × List Expr)) e h fun f es ks p => nilO ks ((vAttrP f).bind fun x => if x.2.2.endLine == p.line then some (x.1, x.2.1, es) else none) else none
theorem vMeth_is {e : Expr} {o : Expr} {n : Str} {es : List Expr} (h : vMeth e = some (o, n, es)) : ∃ ap p, e = .Call (.Attribute o n ap) es [] p ∧ (ap.endLine == p.line) = true := by
  by_cases hc : e.ctorIdx = 16
  · refine Expr.Call.elim (motive_1 := fun e => vMeth e = some (o, n, es) → ∃ ap p, e = .Call (.Attribute o n ap) es [] p ∧ (ap.endLine == p.line) = true) e hc (fun f es ks p h => ?_) h
    obtain ⟨rfl, h⟩ := nilO_is h
    obtain ⟨⟨a, b, c⟩, q, h⟩ := Option.bind_eq_some_iff.mp h
    obtain rfl := vAttrP_is q
    by_cases hl : (c.endLine == p.line) = true
    · replace h := (if_pos hl).symm.trans h
      cases h; exact ⟨c, p, rfl, hl⟩
    · exact noV h (if_neg hl)
  · exact noV h (dif_neg hc)
noncomputable def vBool (e : Expr) : Option (BoolOp × List Expr) := if h : e.ctorIdx = 0 then Expr.BoolOp.elim (motive_1 := fun _ => Option (BoolOp × List Expr)) e h fun o es p => some (o, es) else none
theorem vBool_is {e : Expr} {o : BoolOp} {es : List Expr} (h : vBool e = some (o, es)) : ∃ p, e = .BoolOp o es p := by
  by_cases hc : e.ctorIdx = 0
  · refine Expr.BoolOp.elim (motive_1 := fun e => vBool e = some (o, es) → ∃ p, e = .BoolOp o es p) e hc (fun o es p h => ?_) h
    replace h : some (_, _) = some (_, _) := h
    cases h; exact ⟨p, rfl⟩
  · exact noV h (dif_neg hc)
noncomputable def vIf (e : Expr) : Option (Expr × Expr × Expr) := if h : e.ctorIdx = 5 then Expr.IfExp.elim (motive_1 := fun _ => Option (Expr × Expr × Expr)) e h fun t a b p => some (t, a, b) else none
theorem vIf_is {e : Expr} {t a b : Expr} (h : vIf e = some (t, a, b)) : ∃ p, e = .IfExp t a b p := by
  by_cases hc : e.ctorIdx = 5
  · refine Expr.IfExp.elim (motive_1 := fun e => vIf e = some (t, a, b) → ∃ p, e = .IfExp t a b p) e hc (fun t a b p h => ?_) h
    replace h : some (_, _, _) = some (_, _, _) := h
    cases h; exact ⟨p, rfl⟩
  · exact noV h (dif_neg hc)
noncomputable def vComp (e : Expr) : Option (Expr × Str × Expr × List Expr × Scope) := if h : e.ctorIdx = 8 then Expr.ListComp.elim (motive_1 := fun _ => Option (Expr × Str × Expr × List Expr × Scope)) e h fun el gs sc p => oneO gs fun g => (vName g.target).bind fun x => if g.is_async = 0 then some (el, x, g.iter, g.ifs, sc) else none else none
theorem vComp_is {e : Expr} {elt iter : Expr} {x : Str} {ifs : List Expr} {scope : Scope} (h : vComp e = some (elt, x, iter, ifs, scope)) : ∃ px p, e = .ListComp elt [⟨.Name x px, iter, ifs, 0⟩] scope p := by
  by_cases hc : e.ctorIdx = 8
  · refine Expr.ListComp.elim (motive_1 := fun e => vComp e = some (elt, x, iter, ifs, scope) → ∃ px p, e = .ListComp elt [⟨.Name x px, iter, ifs, 0⟩] scope p) e hc (fun el gs sc p h => ?_) h
    obtain ⟨⟨tg, it, fs, n⟩, rfl, h⟩ := oneO_is h
    obtain ⟨y, q, h⟩ := Option.bind_eq_some_iff.mp h
    obtain ⟨px, rfl⟩ := vName_is q
    by_cases hn : n = 0
    · subst hn
      replace h : some (_, _, _, _, _) = some (_, _, _, _, _) := h
      cases h; exact ⟨px, p, rfl⟩
    · exact noV h (if_neg hn)
  · exact noV h (dif_neg hc)
noncomputable def vAsg (e : Stmt) : Option (Expr × Expr) := if h : e.ctorIdx = 5 then Stmt.Assign.elim (motive_2 := fun _ => Option (Expr × Expr)) e h fun ts v p => oneO ts fun t => some (t, v) else none
theorem vAsg_is {e : Stmt} {t v : Expr} (h : vAsg e = some (t, v)) : ∃ p, e = .Assign [t] v p := by
  by_cases hc : e.ctorIdx = 5
  · refine Stmt.Assign.elim (motive_2 := fun e => vAsg e = some (t, v) → ∃ p, e = .Assign [t] v p) e hc (fun ts v p h => ?_) h
    obtain ⟨x, rfl, h⟩ := oneO_is h
    cases h; exact ⟨p, rfl⟩
  · exact noV h (dif_neg hc)
noncomputable def vExp (e : Stmt) : Option Expr := if h : e.ctorIdx = 24 then Stmt.Expr.elim (motive_2 := fun _ => Option Expr) e h fun v p => some v else none
theorem vExp_is {e : Stmt} {v : Expr} (h : vExp e = some v) : ∃ p, e = .Expr v p := by
  by_cases hc : e.ctorIdx = 24
  · refine Stmt.Expr.elim (motive_2 := fun e => vExp e = some v → ∃ p, e = .Expr v p) e hc (fun v p h => ?_) h
    replace h : some _ = some _ := h
    cases h; exact ⟨p, rfl⟩
  · exact noV h (dif_neg hc)
noncomputable def vIfS (e : Stmt) : Option (Expr × List Stmt × List Stmt) := if h : e.ctorIdx = 12 then Stmt.If.elim (motive_2 := fun _ => Option (Expr × List Stmt × List Stmt)) e h fun t x y p => some (t, x, y) else none
theorem vIfS_is {e : Stmt} {t : Expr} {x y : List Stmt} (h : vIfS e = some (t, x, y)) : ∃ p, e = .If t x y p := by
  by_cases hc : e.ctorIdx = 12
  · refine Stmt.If.elim (motive_2 := fun e => vIfS e = some (t, x, y) → ∃ p, e = .If t x y p) e hc (fun t x y p h => ?_) h
    replace h : some (_, _, _) = some (_, _, _) := h
    cases h; exact ⟨p, rfl⟩
  · exact noV h (dif_neg hc)
noncomputable def vFor (e : Stmt) : Option (Expr × Expr × List Stmt) := if h : e.ctorIdx = 9 then Stmt.For.elim (motive_2 := fun _ => Option (Expr × Expr × List Stmt)) e h fun t i b o p => nilO o (some (t, i, b)) else none
theorem vFor_is {e : Stmt} {t i : Expr} {b : List Stmt} (h : vFor e = some (t, i, b)) : ∃ p, e = .For t i b [] p := by
  by_cases hc : e.ctorIdx = 9
  · refine Stmt.For.elim (motive_2 := fun e => vFor e = some (t, i, b) → ∃ p, e = .For t i b [] p) e hc (fun t i b o p h => ?_) h
    obtain ⟨rfl, h⟩ := nilO_is h
    cases h; exact ⟨p, rfl⟩
  · exact noV h (dif_neg hc)
noncomputable def vWhile (e : Stmt) : Option (Expr × List Stmt) := if h : e.ctorIdx = 11 then Stmt.While.elim (motive_2 := fun _ => Option (Expr × List Stmt)) e h fun t b o p => nilO o (some (t, b)) else none
theorem vWhile_is {e : Stmt} {t : Expr} {b : List Stmt} (h : vWhile e = some (t, b)) : ∃ p, e = .While t b [] p := by
  by_cases hc : e.ctorIdx = 11
  · refine Stmt.While.elim (motive_2 := fun e => vWhile e = some (t, b) → ∃ p, e = .While t b [] p) e hc (fun t b o p h => ?_) h
    obtain ⟨rfl, h⟩ := nilO_is h
    cases h; exact ⟨p, rfl⟩
  · exact noV h (dif_neg hc)
noncomputable def vRet (e : Stmt) : Option Expr := if h : e.ctorIdx = 3 then Stmt.Return.elim (motive_2 := fun _ => Option Expr) e h fun x p => x else none
theorem vRet_is {e : Stmt} {v : Expr} (h : vRet e = some v) : ∃ p, e = .Return (some v) p := by
  by_cases hc : e.ctorIdx = 3
  · refine Stmt.Return.elim (motive_2 := fun e => vRet e = some v → ∃ p, e = .Return (some v) p) e hc (fun x p h => ?_) h
    replace h : x = some v := h
    subst h; exact ⟨p, rfl⟩
  · exact noV h (dif_neg hc)
noncomputable def consB {α : Type} (l : List α) (f : α → List α → Bool) : Bool := match l with
  | x :: r => f x r
  | _ => false
theorem consB_is {α : Type} {l : List α} {f : α → List α → Bool} (h : consB l f = true) : ∃ x r, l = x :: r ∧ f x r = true := by
  cases l with
  | nil => exact ffB h
  | cons x r => exact ⟨x, r, rfl, h⟩

noncomputable def notStar (e : Expr) : Bool := e.ctorIdx != 22
theorem starEach_cons {e : Expr} (h : notStar e = true) (r : List Expr) (env : Env) : starEach (e :: r) env = (false, eval e env) :: starEach r env := by
  cases e <;> first | rfl | exact ffB h
noncomputable def notSet (e : Expr) : Bool := e.ctorIdx != 7
theorem notSet_marks {e : Expr} (h : notSet e = true) (o : CmpOp) : behindInMarks o e = false := by
  cases e <;> first | rfl | exact ffB h
theorem notSet_folded {e : Expr} (h : notSet e = true) (env : Env) (x : Value) : foldedSetIterable e env x = pure x := by
  cases e <;> first | rfl | exact ffB h
noncomputable def notSlice (e : Expr) : Bool := e.ctorIdx != 26
theorem notSlice_sub {e : Expr} (h : notSlice e = true) (o i : Value) : subscripted e false o i = operate [o, i] (getItem o i) := by
  cases e <;> first | rfl | exact ffB h
/-- the isTrue of such a tree looks at its value -/
noncomputable def valT (e : Expr) : Bool := e.ctorIdx != 0 && e.ctorIdx != 5 && e.ctorIdx != 15 && (e.ctorIdx != 3 || onB (vUn e) fun x => x.1 != .Not)
theorem valT_is {e : Expr} (h : valT e = true) (env : Env) (whole : Sem Value) : isTrue e env whole = (do let v ← whole; standAt e.pos; holding [v] (truthy v)) := by
  cases e <;> first
    | rfl
    | exact ffB h
    | (rename_i o _ _; cases o <;> first | rfl | exact ffB h)
noncomputable def callBase (e : Expr) : Bool := e.ctorIdx == 16
theorem attrBase_is {o : Expr} (h : callBase o = false) (n : Str) (env : Env) (whole : Sem Value) : attributeBase o n env whole = whole := by
  cases o <;> first | rfl | exact ffB h.symm

/-! what the tables say of names -/
noncomputable def isFn (k : Nat) : Bool := [19, 22, 31, 33, 35, 38, 40, 42, 44, 46, 47, 53, 56, 57, 61, 64, 68, 74, 76, 77, 79, 82, 94, 99, 102, 104, 106, 109, 110, 114].contains k
noncomputable def isCls (k : Nat) : Bool := k == 11 || k == 17
noncomputable def biList : List (Str × Value) := [("len", .builtin "len"), ("isinstance", .builtin "isinstance"), ("all", .builtin "all"), ("sum", .builtin "sum"), ("int", .type "int"), ("bool", .type "bool"), ("tuple", .type "tuple"), ("set", .type "set"), ("list", .type "list"), ("zip", .type "zip"), ("enumerate", .type "enumerate"), ("range", .type "range")]
noncomputable def kd (sc : Scope) (n : Str) : Option NameKind := sc.names.lookup n
noncomputable def isV (sc : Scope) (k : Nat) : Bool := decide (k < wmax) && (kd sc (Wn k) == some .local || kd sc (Wn k) == some .cell || kd sc (Wn k) == some .free)
noncomputable def isG (sc : Scope) (n : Str) : Bool := kd sc n == some .globalImplicit
noncomputable def nmIs (e : Expr) (k : Nat) : Bool := onB (vName e) fun n => n == Wn k
noncomputable def isCN : Const → Bool
  | .none => true
  | _ => false
noncomputable def isCB (b : Bool) : Const → Bool
  | .bool c => b == c
  | _ => false
noncomputable def isCI (i : Int) : Const → Bool
  | .int j => i == j
  | _ => false
noncomputable def isCS (k : Nat) : Const → Bool
  | .str x => decide (k < wmax) && x == Wn k
  | _ => false
theorem isCN_is {c : Const} (h : isCN c = true) : c = .none := by
  cases c with
  | none => rfl
  | _ => exact ffB h
theorem isCB_is {b : Bool} {c : Const} (h : isCB b c = true) : c = .bool b := by
  cases c with
  | bool j => exact congrArg Const.bool (beq_iff_eq.mp (show (b == j) = true from h)).symm
  | _ => exact ffB h
theorem isCI_is {i : Int} {c : Const} (h : isCI i c = true) : c = .int i := by
  cases c with
  | int j => exact congrArg Const.int (beq_iff_eq.mp (show (i == j) = true from h)).symm
  | _ => exact ffB h
theorem isCS_is {k : Nat} {c : Const} (h : isCS k c = true) : k < wmax ∧ c = .str (Wn k) := by
  cases c with
  | str x =>
    replace h : (decide (k < wmax) && x == Wn k) = true := h
    rw [Bool.and_eq_true] at h
    exact ⟨of_decide_eq_true h.1, congrArg Const.str (beq_iff_eq.mp h.2)⟩
  | _ => exact ffB h
noncomputable def isNone (e : Expr) : Bool := onB (vConst e) isCN
noncomputable def relabelS (scope sc : Scope) : Scope :=
  { scope with names := scope.names.map fun (n, k) => if (k == .free && sc.kind == .function && sc.names.lookup n == some .cell) then (n, .cell) else (n, k) }
noncomputable def compOk (scope sc : Scope) (t : Nat) : Bool := decide (t < wmax) && scope.kind == .function && scope.names.all (fun y => y.2 != .cell) && scope.names.all (fun y => y.2 != .local || (scope.names.lookup y.1 == some .local)) &&
  (scope.names.lookup (Wn t) == some .local) && scope.names.all (fun y => y.2 != .local || y.1 == Wn t || y.1 == (".0" : Str)) && scope.names.all (fun y => y.2 != .free || kd sc y.1 == some .cell || kd sc y.1 == some .free)

mutual
noncomputable def chkX (sc : Scope) : X → Expr → Bool
  | .none, e => isNone e
  | .bool b, e => onB (vConst e) (isCB b)
  | .int i, e => onB (vConst e) (isCI i)
  | .str k, e => onB (vConst e) (isCS k)
  | .var k, e => nmIs e k && isV sc k
  | .tab k, e => nmIs e k && decide (k < wmax) && isG sc (Wn k)
  | .attr x k, e => onB (vAttr e) fun (o, n) => decide (k < wmax) && n == Wn k && !callBase o && chkX sc x o
  | .tup xs, e => onB (vTuple e) fun es => decide (es.length ≤ 1000) && chkXs sc xs es
  | .mlst xs, e => onB (vList e) fun es => decide (es.length ≤ 1000) && chkXs sc xs es
  | .dict kvs, e => onB (vDict e) fun (ks, vs) => decide (ks.length ≤ 15) && !ks.isEmpty && chkD sc kvs ks vs
  | .bin o a b, e => onB (vBin e) fun (l, op, r) => op == opB o && chkX sc a l && chkX sc b r
  | .neg i, e => onB (vUn e) fun (op, x) => op == .USub && onB (vConst x) (isCI i)
  | .cmp o a b, e => onB (vCmp e) fun (l, op, r) => op == opC o && notSet r && chkX sc a l && chkX sc b r
  | .isN a, e => onB (vCmp e) fun (l, op, r) => op == .Is && isNone r && chkX sc a l
  | .isNN a, e => onB (vCmp e) fun (l, op, r) => op == .IsNot && isNone r && chkX sc a l
  | .isin a c, e => onB (vCmp e) fun (l, op, r) => op == .In && notSet r && chkX sc a l && chkX sc c r
  | .notin a c, e => onB (vCmp e) fun (l, op, r) => op == .NotIn && notSet r && chkX sc a l && chkX sc c r
  | .notinO a k, e => onB (vCmp e) fun (l, op, r) => op == .NotIn && nmIs r k && isV sc k && chkX sc a l
  | .neE k, e => onB (vCmp e) fun (l, op, r) => op == .NotEq && nmIs l k && isV sc k && onB (vList r) List.isEmpty
  | .not a, e => onB (vUn e) fun (op, x) => op == .Not && chkX sc a x
  | .bop isAnd xs, e => onB (vBool e) fun (op, es) => op == (if isAnd then .And else .Or) && chkXs sc xs es
  | .ite c a b, e => onB (vIf e) fun (t, x, y) => chkX sc c t && chkX sc a x && chkX sc b y
  | .sub a i, e => onB (vSub e) fun (o, sl) => notSlice sl && chkX sc a o && chkX sc i sl
  | .osub k i, e => onB (vSub e) fun (o, sl) => nmIs o k && isV sc k && notSlice sl && chkX sc i sl
  | .tl a, e => onB (vSub e) fun (o, sl) => onB (vSlice sl) fun (l, u) => u.isNone && onB l fun l => onB (vConst l) (isCI 1) && chkX sc a o
  | .call f xs, e => onB (vCall e) fun (n, es) => decide (f < wmax) && isFn f && n == Wn f && isG sc n && !es.isEmpty && chkXs sc xs es
  | .new c xs, e => onB (vCall e) fun (n, es) => decide (c < wmax) && isCls c && n == Wn c && isG sc n && !es.isEmpty && chkXs sc xs es
  | .len a, e => onB (vCall e) fun (n, l) => oneB l fun x => n == ("len" : Str) && isG sc n && notStar x && chkX sc a x
  | .isi a T, e => onB (vCall e) fun (n, l) => twoB l fun x t => n == ("isinstance" : Str) && isG sc n && decide (T ≤ 2) && onB (vName t) (fun m => m == Str.ofString (tyName T) && isG sc m) && notStar x && chkX sc a x
  | .all a, e => onB (vCall e) fun (n, l) => oneB l fun x => n == ("all" : Str) && isG sc n && notStar x && chkX sc a x
  | .toInt a, e => onB (vCall e) fun (n, l) => oneB l fun x => n == ("int" : Str) && isG sc n && notStar x && chkX sc a x
  | .tupOf a, e => onB (vCall e) fun (n, l) => oneB l fun x => n == ("tuple" : Str) && isG sc n && notStar x && chkX sc a x
  | .sumOf a, e => onB (vCall e) fun (n, l) => oneB l fun x => n == ("sum" : Str) && isG sc n && notStar x && chkX sc a x
  | .lenset a, e => onB (vCall e) fun (n, l) => oneB l fun y => n == ("len" : Str) && isG sc n && onB (vCall y) fun (m, l) => oneB l fun x => m == ("set" : Str) && isG sc m && notStar x && chkX sc a x
  | .dget d k x, e => onB (vMeth e) fun (o, n, l) => twoB l fun a b => n == ("get" : Str) && !callBase o && notStar a && notStar b && chkX sc d o && chkX sc k a && chkX sc x b
  | .fresh y, e => chkY sc y e
noncomputable def chkXs (sc : Scope) : List X → List Expr → Bool
  | [], es => es.isEmpty
  | x :: r, es => consB es fun e es => notStar e && chkX sc x e && chkXs sc r es
noncomputable def chkD (sc : Scope) : List X → List (Option Expr) → List Expr → Bool
  | [], ks, vs => ks.isEmpty && vs.isEmpty
  | [_], _, _ => false
  | k :: v :: r, ks, vs => consB ks fun a ks => consB vs fun b vs => onB a fun a => chkX sc k a && chkX sc v b && chkD sc r ks vs
noncomputable def chkO (sc : Scope) : Option X → Option Expr → Bool
  | none, e => e.isNone
  | some x, e => onB e fun e => chkX sc x e
noncomputable def chkC (sc : Scope) : Option X → List Expr → Bool
  | none, es => es.isEmpty
  | some x, es => oneB es fun e => chkX sc x e
noncomputable def chkY (sc : Scope) : Y → Expr → Bool
  | .disp xs, e => onB (vList e) fun es => decide (es.length ≤ 1000) && chkXs sc xs es
  | .comp t src cond elt, e => onB (vComp e) fun (el, x, iter, ifs, scope) => x == Wn t && notSet iter && compOk scope sc t && chkX sc src iter && chkC (relabelS scope sc) cond ifs && chkX (relabelS scope sc) elt el
  | .cat a b, e => onB (vBin e) fun (l, op, r) => op == .Add && chkX sc a l && chkX sc b r
  | .rep a n, e => onB (vBin e) fun (l, op, r) => op == .Mult && chkX sc a l && chkX sc n r
  | .slice a lo hi, e => onB (vSub e) fun (o, sl) => onB (vSlice sl) fun (l, u) => chkX sc a o && chkO sc lo l && chkO sc hi u
  | .zip a b, e => onB (vCall e) fun (n, l) => oneB l fun y => n == ("list" : Str) && isG sc n && notStar y && onB (vCall y) fun (m, l) => twoB l fun p q => m == ("zip" : Str) && isG sc m && notStar p && notStar q && chkX sc a p && chkX sc b q
  | .ite c a b, e => onB (vIf e) fun (t, x, y) => chkX sc c t && chkY sc a x && chkY sc b y
  | .listOf a, e => onB (vCall e) fun (n, l) => oneB l fun x => n == ("list" : Str) && isG sc n && notStar x && chkX sc a x
end
end Mine
/-! part MV -/
namespace Mine
open PySem PySem.W PyProof.Rows

noncomputable def stV (sc : Scope) (k : Nat) : Bool := decide (k < wmax) && (kd sc (Wn k) == some .local || kd sc (Wn k) == some .cell)
noncomputable def namesB (sc : Scope) : List Nat → List Expr → Bool
  | [], es => es.isEmpty
  | k :: ks, es => consB es fun e es => nmIs e k && stV sc k && namesB sc ks es
noncomputable def isTup (e : Expr) : Bool := e.ctorIdx == 25
noncomputable def someNotLocal (sc : Scope) : List Expr → Bool
  | [] => false
  | e :: r => (match vName e with
    | some n => kd sc n != some .local
    | none => true) || someNotLocal sc r
noncomputable def isComp (e : Expr) : Bool := e.ctorIdx == 8 || e.ctorIdx == 9 || e.ctorIdx == 10
noncomputable def vFrz (s : S) : Option Nat := match s with
  | .frz k => some k
  | _ => none
theorem vFrz_is {s : S} {k : Nat} (h : vFrz s = some k) : s = .frz k := by
  cases s with
  | frz j => exact congrArg S.frz (Option.some.inj h)
  | _ => exact noV h rfl
mutual
noncomputable def chkS (sc : Scope) : S → Stmt → Bool
  | .asg k x, st => onB (vAsg st) fun (e, v) => nmIs e k && stV sc k && chkX sc x v
  | .own k y, st => onB (vAsg st) fun (e, v) => nmIs e k && stV sc k && chkY sc y v
  | .unp ks x, st => onB (vAsg st) fun (t, v) => onB (vTuple t) fun es => namesB sc ks es && (!isTup v || someNotLocal sc es) && !isComp v && chkX sc x v
  | .setA o k x, st => onB (vAsg st) fun (t, v) => onB (vAttr t) fun (e, n) => decide (k < wmax) && n == Wn k && !isComp v && chkX sc x v && chkX sc o e
  | .setM o i x, st => onB (vAsg st) fun (t, v) => onB (vSub t) fun (e, sl) => !isComp v && chkX sc x v && chkX sc o e && chkX sc i sl
  | .setO k i x, st => onB (vAsg st) fun (t, v) => onB (vSub t) fun (e, sl) => !isComp v && nmIs e k && isV sc k && chkX sc x v && chkX sc i sl
  | .app k x, st => onB (vExp st) fun m => onB (vMeth m) fun (o, n, l) => oneB l fun e => n == ("append" : Str) && nmIs o k && isV sc k && notStar e && chkX sc x e
  | .ext k x, st => onB (vExp st) fun m => onB (vMeth m) fun (o, n, l) => oneB l fun e => n == ("extend" : Str) && nmIs o k && isV sc k && notStar e && chkX sc x e
  | .pop t k, st => onB (vAsg st) fun (e, m) => nmIs e t && stV sc t && onB (vMeth m) fun (o, n, l) => l.isEmpty && n == ("pop" : Str) && nmIs o k && isV sc k
  | .ite c a b, st => onB (vIfS st) fun (t, x, y) => chkX sc c t && chkSs sc a x && chkSs sc b y
  | .for1 t it b, st => onB (vFor st) fun (tg, i, x) => nmIs tg t && stV sc t && notSet i && chkX sc it i && chkSs sc b x
  | .for2 t u it b, st => onB (vFor st) fun (tg, i, x) => onB (vTuple tg) fun es => namesB sc [t, u] es && notSet i && chkX sc it i && chkSs sc b x
  | .forE t u it b, st => onB (vFor st) fun (tg, i, x) => onB (vTuple tg) fun es => namesB sc [t, u] es && notSet i && (onB (vCall i) fun (n, l) => oneB l fun a => n == ("enumerate" : Str) && isG sc n && notStar a && chkX sc it a) && chkSs sc b x
  | .forR t m b, st => onB (vFor st) fun (tg, i, x) => nmIs tg t && stV sc t && notSet i && (onB (vCall i) fun (n, l) => oneB l fun a => n == ("range" : Str) && isG sc n && notStar a && chkX sc m a) && chkSs sc b x
  | .whil _ c b, st => onB (vWhile st) fun (t, x) => chkX sc c t && chkSs sc b x
  | .ret x, st => onB (vRet st) fun e => chkX sc x e
  | .expr x, st => onB (vExp st) fun e => !isComp e && chkX sc x e
  | .frz _, _ => false
noncomputable def chkSs (sc : Scope) : List S → List Stmt → Bool
  | [], sts => sts.isEmpty
  | s :: r, sts => match vFrz s with
    | some k => isV sc k && chkSs sc r sts
    | none => consB sts fun st sts => chkS sc s st && chkSs sc r sts
end
noncomputable def fns : List (Nat × List Nat × List S) := [(k_Procedure,p_Procedure,b_Procedure),(k_Unit,p_Unit,b_Unit),(k_entry_registers,p_entry_registers,b_entry_registers),(k_operand_pairs,p_operand_pairs,b_operand_pairs),(k_registers_read,p_registers_read,b_registers_read),(k_registers_written,p_registers_written,b_registers_written),(k_label_of,p_label_of,b_label_of),(k_places_behind,p_places_behind,b_places_behind),(k_is_count,p_is_count,b_is_count),(k_is_below,p_is_below,b_is_below),(k_are_registers,p_are_registers,b_are_registers),(k_is_closure_row,p_is_closure_row,b_is_closure_row),(k_are_closure_rows,p_are_closure_rows,b_are_closure_rows),(k_operand_fits,p_operand_fits,b_operand_fits),(k_instruction_word,p_instruction_word,b_instruction_word),(k_mask_of,p_mask_of,b_mask_of),(k_written_ahead,p_written_ahead,b_written_ahead),(k_unread_place,p_unread_place,b_unread_place),(k_head_word,p_head_word,b_head_word),(k_procedure_error,p_procedure_error,b_procedure_error),(k_start_word,p_start_word,b_start_word),(k_unit_error,p_unit_error,b_unit_error),(k_law_pot,p_law_pot,b_law_pot),(k_law_dip,p_law_dip,b_law_dip),(k_law_body,p_law_body,b_law_body),(k_law_led,p_law_led,b_law_led),(k_law_unit,p_law_unit,b_law_unit),(k_law_put,p_law_put,b_law_put),(k_law_headed,p_law_headed,b_law_headed),(k_law_operand,p_law_operand,b_law_operand),(k_law_early,p_law_early,b_law_early),(k_law,p_law,b_law)]
end Mine
/-! part MW -/
namespace Mine
open PySem PySem.W PyProof.Rows

structure Wd (prog : Program) (w : World) (cls : Nat → Addr) (h₀ : Heap) (tb : Nat → Option AV) (fa : Nat → Addr) (K : Frag) (mg mb : Str → Option Value) : Prop where
  gns : h₀.Ns mainGlobals mg
  bns : h₀.Ns builtinsNs mb
  lim : h₀.NoLimit
  X : K.In h₀
  ck : ∀ c, ∃ fI, ClsOk K (cls c) fI
  fn : ∀ k, isFn k = true → mg (Wn k) = some (.ref (fa k)) ∧ keepIn K (.ref (fa k)) = true
  cl : ∀ k, isCls k = true → mg (Wn k) = some (.ref (cls k)) ∧ keepIn K (.ref (cls k)) = true ∧ ClsOk K (cls k) (fa k)
  tab : ∀ k a, tb k = some a → ∃ v, mg (Wn k) = some v ∧ ∀ (ad : Ad) (hf : Fz), (∀ a o, h₀.get? a = some o → hf a = some o) → VRel prog w ad hf a v
  bi : ∀ n v, (n, v) ∈ biList → mg n = none ∧ mb n = some v

noncomputable abbrev Ev := Loc → Sto → Option (AV × Sto)
noncomputable abbrev Evs := Loc → Sto → Option (List AV × Sto)
section
variable (prog : Program) (w : World) (cls : Nat → Addr) (h₀ : Heap) (env : Env) (A : Around)
noncomputable def XsOk (f : Evs) (es : List Expr) : Prop :=
  ∀ (hE : Fz) (ρ : Loc) (σ σ' : Sto) (l : List AV) (ad : Ad) (hf : Fz) (m : Str → Option Value) (oa : Nat → Addr) (s : Shared) (pos : Pos) (Q : List Value → Shared → Prop) (E : Value → Shared → Prop), f ρ σ = some (l, σ') → Sit prog w cls h₀ ad hf σ s.heap → Fra prog w hE env ρ ad hf s.heap m oa →
    (∀ vs h' tk ad' hf', Sit prog w cls h₀ ad' hf' σ' h' → Ext ad hf s.heap ad' hf' h' → VRels prog w ad' hf' l vs → Q vs { s with heap := h', toks := tk }) → wpAny (model prog w) A (spliced (backTo pos (starEach es env))) Q E s
noncomputable def YOk (f : Evs) (e : Expr) : Prop :=
  ∀ (hE : Fz) (ρ : Loc) (σ σ' : Sto) (l : List AV) (ad : Ad) (hf : Fz) (m : Str → Option Value) (oa : Nat → Addr) (s : Shared) (Q : Value → Shared → Prop) (E : Value → Shared → Prop), f ρ σ = some (l, σ') → Sit prog w cls h₀ ad hf σ s.heap → Fra prog w hE env ρ ad hf s.heap m oa →
    YQ prog w cls h₀ ad hf s l σ' Q → wpAny (model prog w) A (eval e env) Q E s
noncomputable abbrev toB (f : Ev) : Loc → Sto → Option (Bool × Sto) := fun ρ σ => (f ρ σ).bind fun (v, σ) => (asB v).map fun b => (b, σ)
noncomputable def TOk (f : Ev) (e : Expr) : Prop := BOk prog w cls h₀ env A (toB f) (isTrue e env (eval e env))
end

section
variable {prog : Program} {w : World} {cls : Nat → Addr} {h₀ : Heap} {tb : Nat → Option AV} {fa : Nat → Addr} {K : Frag} {mg mb : Str → Option Value} {env : Env} {A : Around} {ad : Ad} {hf hE : Fz} {σ : Sto} {ρ : Loc} {s : Shared} {m : Str → Option Value} {oa : Nat → Addr} {E : Value → Shared → Prop}

theorem Sit.keep0 (S : Sit prog w cls h₀ ad hf σ s.heap) : Grow h₀ s.heap := fun a o e => S.fro a o (S.base a o e)
theorem glob_name {n : Str} {v : Value} {p : Pos} {Q : Value → Shared → Prop} (W : Wd prog w cls h₀ tb fa K mg mb) (S : Sit prog w cls h₀ ad hf σ s.heap) (F : Fra prog w hE env ρ ad hf s.heap m oa) (hk : env.kindOf n = some .globalImplicit) (hd : (n == ("__debug__" : Str)) = false)
    (hv : mg n = some v) (h : Q v s) : wpAny (model prog w) A (eval (.Name n p) env) Q E s :=
  Calls.Name_function_global F.kind hk (Calls.loadGlobal_global (by rw [F.glob]; exact W.gns.at' fun o e => S.keep0 _ o e) hv h) hd
theorem bi_name {n : Str} {v : Value} {p : Pos} {Q : Value → Shared → Prop} (W : Wd prog w cls h₀ tb fa K mg mb) (S : Sit prog w cls h₀ ad hf σ s.heap) (F : Fra prog w hE env ρ ad hf s.heap m oa) (hk : env.kindOf n = some .globalImplicit) (hd : (n == ("__debug__" : Str)) = false)
    (hv : (n, v) ∈ biList) (h : Q v s) : wpAny (model prog w) A (eval (.Name n p) env) Q E s :=
  Calls.Name_function_global F.kind hk (Calls.loadGlobal_builtin (by rw [F.glob]; exact W.gns.at' fun o e => S.keep0 _ o e) (W.bi n v hv).1 (by rw [F.blt]; exact W.bns.at' fun o e => S.keep0 _ o e) (W.bi n v hv).2 h) hd
theorem isG_kind {sc : Scope} {n : Str} (he : env.scope = sc) (h : isG sc n = true) : env.kindOf n = some .globalImplicit := by
  subst he; exact beq_iff_eq.mp h
theorem isV_kind {sc : Scope} {k : Nat} (he : env.scope = sc) (h : isV sc k = true) : k < wmax ∧ (env.kindOf (Wn k) = some .local ∨ env.kindOf (Wn k) = some .cell ∨ env.kindOf (Wn k) = some .free) := by
  subst he
  simp only [isV, Bool.and_eq_true, Bool.or_eq_true, beq_iff_eq, decide_eq_true_eq] at h
  exact ⟨h.1, h.2.elim (fun z => z.elim .inl fun z => .inr (.inl z)) fun z => .inr (.inr z)⟩
theorem nmIs_is {e : Expr} {k : Nat} (h : nmIs e k = true) : ∃ p, e = .Name (Wn k) p := by
  obtain ⟨n, q, h⟩ := onB_is h
  obtain ⟨p, rfl⟩ := vName_is q
  exact ⟨p, by rw [beq_iff_eq.mp h]⟩
theorem isNone_is {e : Expr} (h : isNone e = true) : ∃ k p, e = .Constant .none k p := by
  obtain ⟨c, q, h⟩ := onB_is h
  rw [isCN_is h] at q
  exact vConst_is q

/-! the forms of values -/
theorem x_now {a : AV} {e : Expr} (hv : ∀ (ad : Ad) (hf : Fz) (s : Shared) (Q : Value → Shared → Prop) (E : Value → Shared → Prop), (∀ v tk, VRel prog w ad hf a v → Q v { s with toks := tk }) → wpAny (model prog w) A (eval e env) Q E s) :
    XOk prog w cls h₀ env A (fun _ σ => some (a, σ)) e := fun hE ρ σ σ' a' ad hf m oa s Q E q S F h => by
  cases q
  exact hv ad hf s Q E fun v tk V => h v s.heap tk ad hf S (Ext.refl _ _ _) V
theorem x_none {k : Nat} {p : Pos} : XOk prog w cls h₀ env A (fun _ σ => some (.none, σ)) (.Constant .none k p) :=
  x_now fun _ _ s _ _ h => wpAny_Constant_none (h _ s.toks (by rw [VRel]))
theorem x_bool {b : Bool} {k : Nat} {p : Pos} : XOk prog w cls h₀ env A (fun _ σ => some (.bool b, σ)) (.Constant (.bool b) k p) :=
  x_now fun _ _ s _ _ h => wpAny_Constant_bool (h _ s.toks (by rw [VRel]))
theorem x_int {i : Int} {k : Nat} {p : Pos} : XOk prog w cls h₀ env A (fun _ σ => some (.int i, σ)) (.Constant (.int i) k p) :=
  x_now fun _ _ s _ _ h => wpAny_Constant_int (h _ _ (by rw [VRel]; exact ⟨_, rfl⟩))
theorem x_str {j : Nat} {k : Nat} {p : Pos} (hj : j < wmax) : XOk prog w cls h₀ env A (fun _ σ => some (.str j, σ)) (.Constant (.str (Wn j)) k p) :=
  x_now fun _ _ s _ _ h => wpAny_Constant_str (h _ _ (by rw [VRel]; exact ⟨hj, _, rfl⟩))
theorem x_neg {i : Int} {k : Nat} {p q : Pos} : XOk prog w cls h₀ env A (fun _ σ => some (.int (-i), σ)) (.UnaryOp .USub (.Constant (.int i) k p) q) :=
  x_now fun _ _ s _ _ h => wpAny_UnaryOp (wpAny_Constant_int (neg_int (h _ _ (by rw [VRel]; exact ⟨_, rfl⟩))))
theorem x_var {j : Nat} {p : Pos} (hj : j < wmax) (hk : env.kindOf (Wn j) = some .local ∨ env.kindOf (Wn j) = some .cell ∨ env.kindOf (Wn j) = some .free) :
    XOk prog w cls h₀ env A (fun ρ σ => match look j ρ with | some (.val a) => some (a, σ) | _ => none) (.Name (Wn j) p) := fun hE ρ σ σ' a ad hf m oa s Q E q S F h => by
  dsimp only at q
  split at q
  · rename_i a' e
    cases q
    exact name_var F e hj hk fun v L => h v s.heap s.toks ad hf S (Ext.refl _ _ _) L
  · cases q
theorem x_tab {j : Nat} {p : Pos} (W : Wd prog w cls h₀ tb fa K mg mb) (hj : j < wmax) (hk : env.kindOf (Wn j) = some .globalImplicit) :
    XOk prog w cls h₀ env A (fun _ σ => (tb j).map fun a => (a, σ)) (.Name (Wn j) p) := fun hE ρ σ σ' a ad hf m oa s Q E q S F h => by
  obtain ⟨a', e, q⟩ := Option.map_eq_some_iff.mp q
  cases q
  obtain ⟨v, h1, h2⟩ := W.tab j _ e
  exact glob_name W S F hk (Wn_plain hj).1 h1 (h v s.heap s.toks ad hf S (Ext.refl _ _ _) (h2 ad hf S.base))
theorem x_attr {f : Ev} {o : Expr} {k : Nat} {p : Pos} (W : Wd prog w cls h₀ tb fa K mg mb) (hk : k < wmax) (hc : callBase o = false) (ho : XOk prog w cls h₀ env A f o) :
    XOk prog w cls h₀ env A (fun ρ σ => (f ρ σ).bind fun (v, σ) => match v with
      | .obj i => match σ[i]? with
        | some (.inst _ fs) => (field k fs).map fun a => (a, σ)
        | _ => Option.none
      | _ => Option.none) (.Attribute o (Wn k) p) := fun hE ρ σ σ' a ad hf m oa s Q E q S F h => by
  obtain ⟨⟨v, σ1⟩, e1, q⟩ := Option.bind_eq_some_iff.mp q
  dsimp only at q
  split at q
  · rename_i i
    split at q
    · rename_i c fs hi
      obtain ⟨a', e2, q⟩ := Option.map_eq_some_iff.mp q
      cases q
      refine Attribute_any_ (ho _ _ _ _ _ _ _ _ _ _ _ _ e1 S F fun v1 h1 tk1 ad1 hf1 S1 E1 V1 => ?_) (by rw [arm_eval_Attribute, attrBase_is hc])
      refine get_field S1 (W.X.keeps S1.keep0) W.ck hk hi e2 V1 fun v' h' tk g V' => ?_
      exact h v' h' tk ad1 hf1 (S1.grow g) (E1.trans g.ext) V'
    · cases q
  · cases q
theorem x_bin {f g : Ev} {o : BO} {l r : Expr} {p : Pos} (ha : XOk prog w cls h₀ env A f l) (hb : XOk prog w cls h₀ env A g r) :
    XOk prog w cls h₀ env A (fun ρ σ => (f ρ σ).bind fun (u, σ) => (g ρ σ).bind fun (v, σ) => (binV o u v).map fun r => (r, σ)) (.BinOp l (opB o) r p) := fun hE ρ σ σ' a ad hf m oa s Q E e S F h => by
  obtain ⟨⟨u, σ1⟩, e1, e⟩ := Option.bind_eq_some_iff.mp e
  obtain ⟨⟨v, σ2⟩, e2, e⟩ := Option.bind_eq_some_iff.mp e
  obtain ⟨r, e3, e⟩ := Option.map_eq_some_iff.mp e
  cases e
  refine wpAny_BinOp (ha _ _ _ _ _ _ _ _ _ _ _ _ e1 S F fun v1 h1 tk1 ad1 hf1 S1 E1 V1 => ?_)
  refine hb _ _ _ _ _ _ _ _ _ _ _ _ e2 S1 (F.ext E1) fun v2 h2 tk2 ad2 hf2 S2 E2 V2 => ?_
  refine prim_bin e3 (V1.mono E2.pre E2.hm) V2 fun v' h' tk g V' => ?_
  exact h v' h' tk ad2 hf2 (S2.grow g) (E1.trans (E2.trans g.ext)) V'

/-! comparisons -/
noncomputable def COk (prog : Program) (w : World) (cls : Nat → Addr) (h₀ : Heap) (env : Env) (A : Around) (f : Loc → Sto → Option (Bool × Sto)) (l : Expr) (op : CmpOp) (r : Expr) : Prop :=
  ∀ (hE : Fz) (ρ : Loc) (σ σ' : Sto) (b : Bool) (ad : Ad) (hf : Fz) (m : Str → Option Value) (oa : Nat → Addr) (s : Shared) (Q : Value → Shared → Prop) (E : Value → Shared → Prop), f ρ σ = some (b, σ') → Sit prog w cls h₀ ad hf σ s.heap → Fra prog w hE env ρ ad hf s.heap m oa →
    (∀ h' tk ad' hf', Sit prog w cls h₀ ad' hf' σ' h' → Ext ad hf s.heap ad' hf' h' → Q (.bool b) { s with heap := h', toks := tk }) →
    wpAny (model prog w) A (eval l env) (fun a s₁ => wpAny (model prog w) A (eval r env) (fun b s₂ => wpAny (model prog w) A (compareOp op a b) Q E s₂) E s₁) E s
theorem COk.x {f : Loc → Sto → Option (Bool × Sto)} {l r : Expr} {op : CmpOp} {p : Pos} (h : COk prog w cls h₀ env A f l op r) (hm : behindInMarks op r = false) : XOk prog w cls h₀ env A (fun ρ σ => (f ρ σ).map fun (b, σ) => (.bool b, σ)) (.Compare l [op] [r] p) :=
  fun hE ρ σ σ' a ad hf m oa s Q E e S F hq => by
    obtain ⟨⟨b, σ1⟩, e1, e⟩ := Option.map_eq_some_iff.mp e
    cases e
    exact wpAny_Compare1 (h _ _ _ _ _ _ _ _ _ _ _ _ e1 S F fun h' tk ad' hf' S' E' => hq _ h' tk ad' hf' S' E' (by rw [VRel])) hm
theorem COk.t {f : Loc → Sto → Option (Bool × Sto)} {l r : Expr} {op : CmpOp} {p : Pos} (h : COk prog w cls h₀ env A f l op r) (hm : behindInMarks op r = false) : BOk prog w cls h₀ env A f (isTrue (.Compare l [op] [r] p) env (eval (.Compare l [op] [r] p) env)) :=
  fun _ _ _ _ _ _ _ _ _ _ _ _ e S F hq => wpAny_isTrue_Compare1 (h _ _ _ _ _ _ _ _ _ _ _ _ e S F fun h' tk ad' hf' S' E' => wpAny_truthy_bool (hq h' tk ad' hf' S' E')) hm
noncomputable abbrev cmp2 (f g : Ev) (c : AV → AV → Option Bool) : Loc → Sto → Option (Bool × Sto) := fun ρ σ => (f ρ σ).bind fun (u, σ) => (g ρ σ).bind fun (v, σ) => (c u v).map fun r => (r, σ)
theorem c_cmp {f g : Ev} {o : CO} {l r : Expr} (hu : A.units < cLine) (ha : XOk prog w cls h₀ env A f l) (hb : XOk prog w cls h₀ env A g r) : COk prog w cls h₀ env A (cmp2 f g (cmpV o)) l (opC o) r := fun hE ρ σ σ' b ad hf m oa s Q E e S F h => by
  obtain ⟨⟨u, σ1⟩, e1, e⟩ := Option.bind_eq_some_iff.mp e
  obtain ⟨⟨v, σ2⟩, e2, e⟩ := Option.bind_eq_some_iff.mp e
  obtain ⟨r, e3, e⟩ := Option.map_eq_some_iff.mp e
  cases e
  refine ha _ _ _ _ _ _ _ _ _ _ _ _ e1 S F fun v1 h1 tk1 ad1 hf1 S1 E1 V1 => ?_
  refine hb _ _ _ _ _ _ _ _ _ _ _ _ e2 S1 (F.ext E1) fun v2 h2 tk2 ad2 hf2 S2 E2 V2 => ?_
  exact prim_cmp S2 hu e3 (V1.mono E2.pre E2.hm) V2 (h h2 tk2 ad2 hf2 S2 (E1.trans E2))
theorem c_in {f g : Ev} {neg : Bool} {l r : Expr} (ha : XOk prog w cls h₀ env A f l) (hb : XOk prog w cls h₀ env A g r) : COk prog w cls h₀ env A (cmp2 f g (fun u v => (isinV u v).map (· ^^ neg))) l (if neg then .NotIn else .In) r := fun hE ρ σ σ' b ad hf m oa s Q E e S F h => by
  obtain ⟨⟨u, σ1⟩, e1, e⟩ := Option.bind_eq_some_iff.mp e
  obtain ⟨⟨v, σ2⟩, e2, e⟩ := Option.bind_eq_some_iff.mp e
  obtain ⟨r, e3, e⟩ := Option.map_eq_some_iff.mp e
  cases e
  obtain ⟨r', e4, rfl⟩ := Option.map_eq_some_iff.mp e3
  refine ha _ _ _ _ _ _ _ _ _ _ _ _ e1 S F fun v1 h1 tk1 ad1 hf1 S1 E1 V1 => ?_
  refine hb _ _ _ _ _ _ _ _ _ _ _ _ e2 S1 (F.ext E1) fun v2 h2 tk2 ad2 hf2 S2 E2 V2 => ?_
  exact prim_in S2 e4 (V1.mono E2.pre E2.hm) V2 fun tk => h h2 tk ad2 hf2 S2 (E1.trans E2)
noncomputable def isNoneV : AV → Bool
  | .none => true
  | _ => false
theorem VRel.isNone {a : AV} {v : Value} (x : VRel prog w ad hf a v) : (v == Value.none) = isNoneV a := by
  cases a <;> rw [VRel] at x
  case none => subst x; rfl
  case bool => subst x; rfl
  case int => obtain ⟨t, rfl⟩ := x; rfl
  case str => obtain ⟨_, t, rfl⟩ := x; rfl
  case tup => obtain ⟨_, _, _, rfl, _⟩ := x; rfl
  case lst => obtain ⟨_, _, _, rfl, _⟩ := x; rfl
  case dct => obtain ⟨_, _, _, rfl, _⟩ := x; rfl
  case obj => obtain ⟨_, _, rfl⟩ := x; rfl
theorem c_is {f : Ev} {neg : Bool} {l : Expr} {k : Nat} {p : Pos} (ha : XOk prog w cls h₀ env A f l) : COk prog w cls h₀ env A (fun ρ σ => (f ρ σ).map fun (v, σ) => (isNoneV v ^^ neg, σ)) l (if neg then .IsNot else .Is) (.Constant .none k p) := fun hE ρ σ σ' b ad hf m oa s Q E e S F h => by
  obtain ⟨⟨u, σ1⟩, e1, e⟩ := Option.map_eq_some_iff.mp e
  cases e
  refine ha _ _ _ _ _ _ _ _ _ _ _ _ e1 S F fun v1 h1 tk1 ad1 hf1 S1 E1 V1 => wpAny_Constant_none ?_
  have q := V1.isNone
  cases neg with
  | false => exact is_none (by rw [q]; have := h h1 tk1 ad1 hf1 S1 E1; simpa using this)
  | true => exact isNot_none (by rw [q]; have := h h1 tk1 ad1 hf1 S1 E1; simpa using this)
theorem c_notinO {f : Ev} {j : Nat} {l : Expr} {p : Pos} (hj : j < wmax) (hk : env.kindOf (Wn j) = some .local ∨ env.kindOf (Wn j) = some .cell ∨ env.kindOf (Wn j) = some .free) (ha : XOk prog w cls h₀ env A f l) :
    COk prog w cls h₀ env A (fun ρ σ => (f ρ σ).bind fun (u, σ) => match look j ρ with
      | some (.own l) => (isinL u l).map fun r => (!r, σ)
      | _ => none) l .NotIn (.Name (Wn j) p) := fun hE ρ σ σ' b ad hf m oa s Q E e S F h => by
  obtain ⟨⟨u, σ1⟩, e1, e⟩ := Option.bind_eq_some_iff.mp e
  dsimp only at e
  split at e
  · rename_i li el
    obtain ⟨r, e2, e⟩ := Option.map_eq_some_iff.mp e
    cases e
    refine ha _ _ _ _ _ _ _ _ _ _ _ _ e1 S F fun v1 h1 tk1 ad1 hf1 S1 E1 V1 => ?_
    refine name_var (F.ext E1) el hj hk fun v L => ?_
    obtain ⟨rfl, vs, n, ho, R⟩ := L
    exact own_notin ho R e2 V1 (h h1 tk1 ad1 hf1 S1 E1)
  · cases e
theorem c_neE {j : Nat} {p q : Pos} (hu : A.units < cLine) (hj : j < wmax) (hk : env.kindOf (Wn j) = some .local ∨ env.kindOf (Wn j) = some .cell ∨ env.kindOf (Wn j) = some .free) :
    COk prog w cls h₀ env A (fun ρ σ => match look j ρ with
      | some (.own l) => some (!l.isEmpty, σ)
      | _ => none) (.Name (Wn j) p) .NotEq (.List [] q) := fun hE ρ σ σ' b ad hf m oa s Q E e S F h => by
  dsimp only at e
  split at e
  · rename_i li el
    cases e
    refine name_var F el hj hk fun v L => ?_
    obtain ⟨rfl, vs, n, ho, R⟩ := L
    refine wpAny_List (wpAny_items_nil ⟨Nat.zero_le _, ?_⟩)
    have g : Grow s.heap (s.heap.push (lstO [] 0)) := Grow.push _ _
    refine own_neE hu (g _ _ ho) (Heap.get?_push_size _ rfl) ?_
    have e1 : vs.isEmpty = li.isEmpty := by
      have := R.length
      cases vs <;> cases li <;> first | rfl | cases this
    rw [e1]
    exact h _ s.toks ad hf (S.grow g) g.ext
  · cases e
/-! truth -/
theorem t_val {f : Ev} {e : Expr} (hv : valT e = true) (h : XOk prog w cls h₀ env A f e) : TOk prog w cls h₀ env A f e := fun hE ρ σ σ' b ad hf m oa s Q E q S F hq => by
  obtain ⟨⟨v, σ1⟩, e1, q⟩ := Option.bind_eq_some_iff.mp q
  obtain ⟨b', e2, q⟩ := Option.map_eq_some_iff.mp q
  cases q
  refine wpAny_isTrue_value (h _ _ _ _ _ _ _ _ _ _ _ _ e1 S F fun v1 h1 tk1 ad1 hf1 S1 E1 V1 => ?_) (valT_is hv env _)
  cases v <;> first | cases e2 | skip
  rw [VRel] at V1
  subst V1
  exact wpAny_truthy_bool (hq h1 tk1 ad1 hf1 S1 E1)
theorem t_cmp {g : Loc → Sto → Option (Bool × Sto)} {l r : Expr} {op : CmpOp} {p : Pos} (h : COk prog w cls h₀ env A g l op r) (hm : behindInMarks op r = false) : TOk prog w cls h₀ env A (fun ρ σ => (g ρ σ).map fun (b, σ) => (.bool b, σ)) (.Compare l [op] [r] p) := fun hE ρ σ σ' b ad hf m oa s Q E q S F hq => by
  refine (h.t (p := p) hm) _ _ _ _ _ _ _ _ _ _ _ _ ?_ S F hq
  obtain ⟨⟨v, σ1⟩, e1, q⟩ := Option.bind_eq_some_iff.mp q
  obtain ⟨⟨b', σ2⟩, e2, e1⟩ := Option.map_eq_some_iff.mp e1
  cases e1
  cases q
  exact e2
theorem t_not {f : Ev} {x : Expr} {p : Pos} (h : TOk prog w cls h₀ env A f x) : TOk prog w cls h₀ env A (fun ρ σ => (f ρ σ).bind fun (v, σ) => (asB v).map fun b => (.bool (!b), σ)) (.UnaryOp .Not x p) := fun hE ρ σ σ' b ad hf m oa s Q E q S F hq => by
  obtain ⟨⟨v, σ1⟩, e1, q⟩ := Option.bind_eq_some_iff.mp q
  obtain ⟨⟨u, σ2⟩, e2, e1⟩ := Option.bind_eq_some_iff.mp e1
  obtain ⟨b', e3, e1⟩ := Option.map_eq_some_iff.mp e1
  cases e1
  cases q
  exact wpAny_isTrue_Not (h _ _ _ _ _ _ _ _ _ _ _ _ (by show ((f ρ σ).bind _) = _; rw [e2]; show ((asB u).map _) = _; rw [e3]; rfl) S F hq)
theorem x_not {f : Ev} {x : Expr} {p : Pos} (h : XOk prog w cls h₀ env A f x) : XOk prog w cls h₀ env A (fun ρ σ => (f ρ σ).bind fun (v, σ) => (asB v).map fun b => (.bool (!b), σ)) (.UnaryOp .Not x p) := fun hE ρ σ σ' a ad hf m oa s Q E q S F hq => by
  obtain ⟨⟨v, σ1⟩, e1, q⟩ := Option.bind_eq_some_iff.mp q
  obtain ⟨b', e2, q⟩ := Option.map_eq_some_iff.mp q
  cases q
  refine wpAny_UnaryOp (h _ _ _ _ _ _ _ _ _ _ _ _ e1 S F fun v1 h1 tk1 ad1 hf1 S1 E1 V1 => ?_)
  cases v <;> first | cases e2 | skip
  rw [VRel] at V1
  subst V1
  exact not_value (wpAny_truthy_bool (hq _ h1 tk1 ad1 hf1 S1 E1 (by rw [VRel])))
theorem x_ite {f g k : Ev} {t x y : Expr} {p : Pos} (ht : TOk prog w cls h₀ env A f t) (hx : XOk prog w cls h₀ env A g x) (hy : XOk prog w cls h₀ env A k y) :
    XOk prog w cls h₀ env A (fun ρ σ => (f ρ σ).bind fun (v, σ) => (asB v).bind fun t => if t then g ρ σ else k ρ σ) (.IfExp t x y p) := fun hE ρ σ σ' a ad hf m oa s Q E q S F hq => by
  obtain ⟨⟨v, σ1⟩, e1, q⟩ := Option.bind_eq_some_iff.mp q
  obtain ⟨b, e2, q⟩ := Option.bind_eq_some_iff.mp q
  refine wpAny_IfExp (ht _ _ _ σ1 b _ _ _ _ _ _ _ (by show ((f ρ σ).bind _) = _; rw [e1]; show ((asB v).map _) = _; rw [e2]; rfl) S F fun h1 tk1 ad1 hf1 S1 E1 => ?_)
  cases b with
  | true => exact hx _ _ _ _ _ _ _ _ _ _ _ _ q S1 (F.ext E1) fun v2 h2 tk2 ad2 hf2 S2 E2 V2 => hq v2 h2 tk2 ad2 hf2 S2 (E1.trans E2) V2
  | false => exact hy _ _ _ _ _ _ _ _ _ _ _ _ q S1 (F.ext E1) fun v2 h2 tk2 ad2 hf2 S2 E2 V2 => hq v2 h2 tk2 ad2 hf2 S2 (E1.trans E2) V2
theorem t_ite {f g k : Ev} {t x y : Expr} {p : Pos} (ht : TOk prog w cls h₀ env A f t) (hx : TOk prog w cls h₀ env A g x) (hy : TOk prog w cls h₀ env A k y) :
    TOk prog w cls h₀ env A (fun ρ σ => (f ρ σ).bind fun (v, σ) => (asB v).bind fun t => if t then g ρ σ else k ρ σ) (.IfExp t x y p) := fun hE ρ σ σ' a ad hf m oa s Q E q S F hq => by
  obtain ⟨⟨v, σ1⟩, e1, q⟩ := Option.bind_eq_some_iff.mp q
  obtain ⟨⟨u, σ2⟩, e2, e1⟩ := Option.bind_eq_some_iff.mp e1
  obtain ⟨b, e3, e1⟩ := Option.bind_eq_some_iff.mp e1
  show wpAny _ _ (do if ← isTrue t env (eval t env) then isTrue x env (eval x env) else isTrue y env (eval y env)) _ _ _
  refine wpAny_bind (ht _ _ _ σ2 b _ _ _ _ _ _ _ (by show ((f ρ σ).bind _) = _; rw [e2]; show ((asB u).map _) = _; rw [e3]; rfl) S F fun h1 tk1 ad1 hf1 S1 E1 => ?_)
  cases b with
  | true => exact hx _ _ _ _ _ _ _ _ _ _ _ _ (by show ((g ρ σ2).bind _) = _; rw [show g ρ σ2 = some (v, σ1) from e1]; exact q) S1 (F.ext E1) fun h2 tk2 ad2 hf2 S2 E2 => hq h2 tk2 ad2 hf2 S2 (E1.trans E2)
  | false => exact hy _ _ _ _ _ _ _ _ _ _ _ _ (by show ((k ρ σ2).bind _) = _; rw [show k ρ σ2 = some (v, σ1) from e1]; exact q) S1 (F.ext E1) fun h2 tk2 ad2 hf2 S2 E2 => hq h2 tk2 ad2 hf2 S2 (E1.trans E2)
end
end Mine
/-! part MX -/
namespace Mine
open PySem PySem.W PyProof.Rows

section
variable {prog : Program} {w : World} {cls : Nat → Addr} {h₀ : Heap} {tb : Nat → Option AV} {fa : Nat → Addr} {K : Frag} {mg mb : Str → Option Value} {env : Env} {A : Around} {ad ad' : Ad} {hf hf' hE : Fz} {σ : Sto} {ρ : Loc} {s : Shared} {m : Str → Option Value} {oa : Nat → Addr} {E : Value → Shared → Prop}

theorem ExtF.freezeNew {g : Fz} {h : Heap} {d : Addr} {o : Obj} (X : ExtF ad hf g ad' hf' h) (hn : hf' d = none) (n : g d = none) : ExtF ad hf g ad' (fput hf' d o) h :=
  ⟨fun a x e => fput_mono hn a x (X.hm a x e), fun a x e f z => by rw [fput_ne (fun y => by rw [y, n] at e; cases e)]; exact X.hn a x e f z, X.ap, X.kp, X.ke⟩

/-! sequences of trees -/
theorem xs_nil : XsOk prog w cls h₀ env A (fun _ σ => some ([], σ)) [] := fun hE ρ σ σ' l ad hf m oa s pos Q E e S F h => by
  cases e
  exact wpAny_items_nil (h [] s.heap s.toks ad hf S (Ext.refl _ _ _) VRels.nil)
theorem xs_cons {f : Ev} {g : Evs} {e : Expr} {es : List Expr} (hs : notStar e = true) (hx : XOk prog w cls h₀ env A f e) (hr : XsOk prog w cls h₀ env A g es) :
    XsOk prog w cls h₀ env A (fun ρ σ => (f ρ σ).bind fun (v, σ) => (g ρ σ).map fun (l, σ) => (v :: l, σ)) (e :: es) := fun hE ρ σ σ' l ad hf m oa s pos Q E q S F h => by
  obtain ⟨⟨v, σ1⟩, e1, q⟩ := Option.bind_eq_some_iff.mp q
  obtain ⟨⟨r, σ2⟩, e2, q⟩ := Option.map_eq_some_iff.mp q
  cases q
  refine wpAny_items_cons (hx _ _ _ _ _ _ _ _ _ _ _ _ e1 S F fun v1 h1 tk1 ad1 hf1 S1 E1 V1 => ?_) (starEach_cons hs _ _)
  refine hr _ _ _ _ _ _ _ _ _ _ _ _ _ e2 S1 (F.ext E1) fun vs h2 tk2 ad2 hf2 S2 E2 V2 => ?_
  exact h _ h2 tk2 ad2 hf2 S2 (E1.trans E2) (VRels.cons (V1.mono E2.pre E2.hm) V2)
noncomputable def LenOk (f : Evs) : Prop := ∀ ρ σ l σ', f ρ σ = some (l, σ') → l.length ≤ 1000
theorem x_tup {f : Evs} {es : List Expr} {k : Nat} {p : Pos} (hl : LenOk f) (hx : XsOk prog w cls h₀ env A f es) : XOk prog w cls h₀ env A (fun ρ σ => (f ρ σ).map fun (l, σ) => (.tup l, σ)) (.Tuple es k p) := fun hE ρ σ σ' a ad hf m oa s Q E q S F h => by
  obtain ⟨⟨l, σ1⟩, e1, q⟩ := Option.map_eq_some_iff.mp q
  cases q
  refine wpAny_Tuple (hx _ _ _ _ _ _ _ _ _ _ _ _ _ e1 S F fun vs h1 tk1 ad1 hf1 S1 E1 V1 => ⟨?_, ?_⟩)
  · have := hl _ _ _ _ e1
    rw [← V1.length, sizeLine_eq]; omega
  · have N := S1.newFrozen (Grow.push h1 { cls := .type "tuple", data := .seq vs.toArray }) (size_none h1) (Heap.get?_push_size _ rfl)
    refine h _ _ tk1 ad1 _ N.1 (E1.trans N.2) ?_
    rw [VRel]
    exact ⟨_, vs, _, rfl, fput_same, V1.mono N.2.pre N.2.hm⟩
theorem y_disp {f : Evs} {es : List Expr} {p : Pos} (hl : LenOk f) (hx : XsOk prog w cls h₀ env A f es) : YOk prog w cls h₀ env A f (.List es p) := fun hE ρ σ σ' l ad hf m oa s Q E q S F h => by
  refine wpAny_List (hx _ _ _ _ _ _ _ _ _ _ _ _ _ q S F fun vs h1 tk1 ad1 hf1 S1 E1 V1 => ⟨?_, ?_⟩)
  · have := hl _ _ _ _ q
    rw [← V1.length, sizeLine_eq]; omega
  · have g : Grow h1 (h1.push (lstO vs 0)) := Grow.push _ _
    have fr := S1.fresh (size_none h1)
    have sn : s.heap.get? h1.objs.size = none := by
      cases z : s.heap.get? h1.objs.size with
      | none => rfl
      | some o => obtain ⟨o', e'⟩ := E1.ke _ o z; rw [size_none] at e'; cases e'
    exact h _ vs 0 _ tk1 ad1 hf1 (S1.grow g) (E1.trans g.ext) sn fr.1 fr.2 (Heap.get?_push_size _ rfl) V1
theorem x_mlst {f : Evs} {es : List Expr} {p : Pos} (hl : LenOk f) (hx : XsOk prog w cls h₀ env A f es) : XOk prog w cls h₀ env A (fun ρ σ => (f ρ σ).map fun (l, σ) => (.obj σ.length, σ ++ [.mlst l])) (.List es p) := fun hE ρ σ σ' a ad hf m oa s Q E q S F h => by
  obtain ⟨⟨l, σ1⟩, e1, q⟩ := Option.map_eq_some_iff.mp q
  cases q
  refine wpAny_List (hx _ _ _ _ _ _ _ _ _ _ _ _ _ e1 S F fun vs h1 tk1 ad1 hf1 S1 E1 V1 => ⟨?_, ?_⟩)
  · have := hl _ _ _ _ e1
    rw [← V1.length, sizeLine_eq]; omega
  · have Z := S1.addObj (p := (h1.objs.size, h1.objs.size)) (o := .mlst l) (Grow.push h1 (lstO vs 0)) (size_none h1) (size_none h1) ⟨rfl, vs, 0, Heap.get?_push_size _ rfl, V1.mono ⟨_, rfl⟩ fun _ _ e => e⟩
    refine h _ _ tk1 _ hf1 Z.1 (E1.trans Z.2) ?_
    rw [VRel]
    exact ⟨(h1.objs.size, h1.objs.size), by rw [← S1.len]; simp, rfl⟩
theorem x_fresh {f : Evs} {e : Expr} (hy : YOk prog w cls h₀ env A f e) : XOk prog w cls h₀ env A (fun ρ σ => (f ρ σ).map fun (l, σ) => (.lst l, σ)) e := fun hE ρ σ σ' a ad hf m oa s Q E q S F h => by
  obtain ⟨⟨l, σ1⟩, e1, q⟩ := Option.map_eq_some_iff.mp q
  cases q
  refine hy _ _ _ _ _ _ _ _ _ _ _ _ e1 S F fun a vs n h1 tk1 ad1 hf1 S1 E1 n0 n1 n2 o1 V1 => ?_
  refine h _ h1 tk1 ad1 _ (S1.freeze o1 n1 n2) (E1.freezeNew n1 n0) ?_
  rw [VRel]
  exact ⟨a, vs, n, rfl, fput_same, V1.mono (pre_refl _) (fput_mono n1)⟩

/-! and, or -/
noncomputable def BoOk (prog : Program) (w : World) (cls : Nat → Addr) (h₀ : Heap) (env : Env) (A : Around) (f : Ev) (op : BoolOp) (es : List Expr) : Prop :=
  ∀ (hE : Fz) (ρ : Loc) (σ σ' : Sto) (a : AV) (ad : Ad) (hf : Fz) (m : Str → Option Value) (oa : Nat → Addr) (s : Shared) (pos : Pos) (Q : Value → Shared → Prop) (E : Value → Shared → Prop), f ρ σ = some (a, σ') → Sit prog w cls h₀ ad hf σ s.heap → Fra prog w hE env ρ ad hf s.heap m oa →
    (∀ v h' tk ad' hf', Sit prog w cls h₀ ad' hf' σ' h' → Ext ad hf s.heap ad' hf' h' → VRel prog w ad' hf' a v → Q v { s with heap := h', toks := tk }) → wpAny (model prog w) A (boolOp pos op (evalEach es env)) Q E s
noncomputable abbrev opBo (isAnd : Bool) : BoolOp := if isAnd then .And else .Or
theorem bo_nil {isAnd : Bool} : BoOk prog w cls h₀ env A (fun _ _ => none) (opBo isAnd) [] := fun _ _ _ _ _ _ _ _ _ _ _ _ _ e => by cases e
theorem asB_is {v : AV} {b : Bool} (h : asB v = some b) : v = .bool b := by
  cases v <;> first | (cases h; rfl) | cases h
theorem bo_cons {f g : Ev} {isAnd last : Bool} {e : Expr} {es : List Expr} (hl : last = es.isEmpty) (hx : XOk prog w cls h₀ env A f e) (hr : BoOk prog w cls h₀ env A g (opBo isAnd) es) :
    BoOk prog w cls h₀ env A (fun ρ σ => (f ρ σ).bind fun (v, σ) => (asB v).bind fun b => if last || b != isAnd then some (.bool b, σ) else g ρ σ) (opBo isAnd) (e :: es) := fun hE ρ σ σ' a ad hf m oa s pos Q E q S F h => by
  obtain ⟨⟨v, σ1⟩, e1, q⟩ := Option.bind_eq_some_iff.mp q
  obtain ⟨b, e2, q⟩ := Option.bind_eq_some_iff.mp q
  have q2 : (if (last || b != isAnd) = true then some (AV.bool b, σ1) else g ρ σ1) = some (a, σ') := q
  clear q
  have e2 := asB_is e2
  subst e2
  cases es with
  | nil =>
    subst hl
    rw [if_pos (show (([] : List Expr).isEmpty || b != isAnd) = true from rfl)] at q2
    cases q2
    exact hx _ _ _ _ _ _ _ _ _ _ _ _ e1 S F h
  | cons e' es =>
    subst hl
    rw [show ((e' :: es).isEmpty || b != isAnd) = (b != isAnd) from rfl] at q2
    show wpAny _ A (do
      let v ← eval e env
      standAt pos
      let t ← holding [v] (truthy v)
      match opBo isAnd, t with
      | .And, false | .Or, true => pure v
      | _, _ => boolOp pos (opBo isAnd) (evalEach (e' :: es) env)) _ _ _
    refine wpAny_bind (hx _ _ _ _ _ _ _ _ _ _ _ _ e1 S F fun v1 h1 tk1 ad1 hf1 S1 E1 V1 => ?_)
    have V1' := V1
    rw [VRel] at V1'
    subst V1'
    refine wpAny_bind (wpAny_standAt (wpAny_bind (wpAny_holding (wpAny_truthy_bool ?_))))
    have go : g ρ σ1 = some (a, σ') → wpAny (model prog w) A (boolOp pos (opBo isAnd) (evalEach (e' :: es) env)) Q E { s with heap := h1, toks := tk1 } := fun q =>
      hr _ _ _ _ _ _ _ _ _ _ _ _ _ q S1 (F.ext E1) fun v2 h2 tk2 ad2 hf2 S2 E2 V2 => h v2 h2 tk2 ad2 hf2 S2 (E1.trans E2) V2
    cases isAnd <;> cases b
    · rw [if_neg (by decide)] at q2
      exact go q2
    · rw [if_pos (by decide)] at q2
      cases q2
      exact wpAny_pure (h _ h1 tk1 ad1 hf1 S1 E1 V1)
    · rw [if_pos (by decide)] at q2
      cases q2
      exact wpAny_pure (h _ h1 tk1 ad1 hf1 S1 E1 V1)
    · rw [if_neg (by decide)] at q2
      exact go q2
theorem x_bop {f : Ev} {isAnd : Bool} {es : List Expr} {p : Pos} (h : BoOk prog w cls h₀ env A f (opBo isAnd) es) : XOk prog w cls h₀ env A f (.BoolOp (opBo isAnd) es p) := fun hE ρ σ σ' a ad hf m oa s Q E q S F hq => by
  rw [arm_eval_BoolOp]
  exact h _ _ _ _ _ _ _ _ _ _ _ _ _ q S F hq
/-- the test of such a row -/
noncomputable def TrOk (prog : Program) (w : World) (cls : Nat → Addr) (h₀ : Heap) (env : Env) (A : Around) (f : Ev) (op : BoolOp) (es : List Expr) : Prop := BOk prog w cls h₀ env A (toB f) (allTrue op es env)
theorem tr_nil {isAnd : Bool} : TrOk prog w cls h₀ env A (fun _ _ => none) (opBo isAnd) [] := fun _ _ _ _ _ _ _ _ _ _ _ _ e => by cases e
theorem tr_cons {f g : Ev} {isAnd last : Bool} {e : Expr} {es : List Expr} (hl : last = es.isEmpty) (hx : TOk prog w cls h₀ env A f e) (hr : TrOk prog w cls h₀ env A g (opBo isAnd) es) :
    TrOk prog w cls h₀ env A (fun ρ σ => (f ρ σ).bind fun (v, σ) => (asB v).bind fun b => if last || b != isAnd then some (.bool b, σ) else g ρ σ) (opBo isAnd) (e :: es) := fun hE ρ σ σ' a ad hf m oa s Q E q S F h => by
  obtain ⟨⟨v, σ1⟩, e0, q⟩ := Option.bind_eq_some_iff.mp q
  obtain ⟨b0, e00, q⟩ := Option.map_eq_some_iff.mp q
  cases q
  obtain ⟨⟨u, σ2⟩, e1, e0⟩ := Option.bind_eq_some_iff.mp e0
  obtain ⟨b, e2, e0⟩ := Option.bind_eq_some_iff.mp e0
  have e0 : (if (last || b != isAnd) = true then some (AV.bool b, σ2) else g ρ σ2) = some (v, σ') := e0
  have tb : toB f ρ σ = some (b, σ2) := by show ((f ρ σ).bind _) = _; rw [e1]; show ((asB u).map _) = _; rw [e2]; rfl
  show wpAny _ A (do
    match opBo isAnd, ← isTrue e env (eval e env) with
    | .And, false => pure false
    | .Or, true => pure true
    | _, _ => allTrue (opBo isAnd) es env) _ _ _
  refine wpAny_bind (hx _ _ _ _ _ _ _ _ _ _ _ _ tb S F fun h1 tk1 ad1 hf1 S1 E1 => ?_)
  have go : g ρ σ2 = some (v, σ') → wpAny (model prog w) A (allTrue (opBo isAnd) es env) Q E { s with heap := h1, toks := tk1 } := fun q =>
    hr _ _ _ _ _ _ _ _ _ _ _ _ (by show ((g ρ σ2).bind _) = _; rw [q]; show ((asB v).map _) = _; rw [e00]; rfl) S1 (F.ext E1) fun h2 tk2 ad2 hf2 S2 E2 => h h2 tk2 ad2 hf2 S2 (E1.trans E2)
  cases last with
  | true =>
    rw [if_pos (show (true || b != isAnd) = true from rfl)] at e0
    have : es = [] := List.isEmpty_iff.mp hl.symm
    subst this
    obtain ⟨rfl, rfl⟩ := Prod.mk.inj (Option.some.inj e0)
    have e00 := Option.some.inj e00
    subst e00
    cases isAnd <;> cases b
    all_goals exact wpAny_pure (h h1 tk1 ad1 hf1 S1 E1)
  | false =>
    rw [Bool.false_or] at e0
    cases isAnd <;> cases b
    · rw [if_neg (by decide)] at e0
      exact go e0
    · rw [if_pos (by decide)] at e0
      cases e0; cases e00
      exact wpAny_pure (h h1 tk1 ad1 hf1 S1 E1)
    · rw [if_pos (by decide)] at e0
      cases e0; cases e00
      exact wpAny_pure (h h1 tk1 ad1 hf1 S1 E1)
    · rw [if_neg (by decide)] at e0
      exact go e0
theorem t_bop {f : Ev} {isAnd : Bool} {es : List Expr} {p : Pos} (h : TrOk prog w cls h₀ env A f (opBo isAnd) es) : TOk prog w cls h₀ env A f (.BoolOp (opBo isAnd) es p) := fun _ _ _ _ _ _ _ _ _ _ _ _ q S F hq =>
  wpAny_isTrue_BoolOp (h _ _ _ _ _ _ _ _ _ _ _ _ q S F hq)

/-! subscripts -/
theorem x_sub {f g : Ev} {o sl : Expr} {p : Pos} (hs : notSlice sl = true) (ho : XOk prog w cls h₀ env A f o) (hi : XOk prog w cls h₀ env A g sl) :
    XOk prog w cls h₀ env A (fun ρ σ => (f ρ σ).bind fun (u, σ) => (g ρ σ).bind fun (v, σ) => (subV σ u v).map fun r => (r, σ)) (.Subscript o sl p) := fun hE ρ σ σ' a ad hf m oa s Q E q S F h => by
  obtain ⟨⟨u, σ1⟩, e1, q⟩ := Option.bind_eq_some_iff.mp q
  obtain ⟨⟨v, σ2⟩, e2, q⟩ := Option.bind_eq_some_iff.mp q
  obtain ⟨r, e3, q⟩ := Option.map_eq_some_iff.mp q
  cases q
  refine Subscript_ (ho _ _ _ _ _ _ _ _ _ _ _ _ e1 S F fun v1 h1 tk1 ad1 hf1 S1 E1 V1 => ?_)
  refine hi _ _ _ _ _ _ _ _ _ _ _ _ e2 S1 (F.ext E1) fun v2 h2 tk2 ad2 hf2 S2 E2 V2 => ?_
  refine prim_sub S2 e3 (V1.mono E2.pre E2.hm) V2 (notSlice_sub hs) fun v' h' tk g V' => ?_
  exact h v' h' tk ad2 hf2 (S2.grow g) (E1.trans (E2.trans g.ext)) V'
theorem x_osub {g : Ev} {j : Nat} {sl : Expr} {q p : Pos} (hj : j < wmax) (hk : env.kindOf (Wn j) = some .local ∨ env.kindOf (Wn j) = some .cell ∨ env.kindOf (Wn j) = some .free) (hs : notSlice sl = true) (hi : XOk prog w cls h₀ env A g sl) :
    XOk prog w cls h₀ env A (fun ρ σ => match look j ρ with
      | some (.own l) => (g ρ σ).bind fun (v, σ) => (match v with | .int i => (atI l i).map fun r => (r, σ) | _ => Option.none)
      | _ => Option.none) (.Subscript (.Name (Wn j) q) sl p) := fun hE ρ σ σ' a ad hf m oa s Q E e S F h => by
  dsimp only at e
  split at e
  · rename_i l el
    obtain ⟨⟨v, σ1⟩, e1, e⟩ := Option.bind_eq_some_iff.mp e
    dsimp only at e
    split at e
    · rename_i i
      obtain ⟨r, e2, e⟩ := Option.map_eq_some_iff.mp e
      cases e
      refine Subscript_ (name_var F el hj hk fun v L => ?_)
      obtain ⟨rfl, vs, n, ho, R⟩ := L
      refine hi _ _ _ _ _ _ _ _ _ _ _ _ e1 S F fun v1 h1 tk1 ad1 hf1 S1 E1 V1 => ?_
      have F1 := F.ext E1
      obtain ⟨v', V', L'⟩ := F1.vars j _ el hj
      obtain ⟨_, vs', n', ho', R'⟩ := L'
      rw [VRel] at V1
      obtain ⟨t, rfl⟩ := V1
      have L2 : h1.IsList (oa j) (List.toArray vs') := PySem.IsL.isList ho'
      refine tail_any (s := { s with heap := h1, toks := tk1 }) L2.typeIs slot_list_getitem.lookup (item_list_at L2 R' e2 fun v' h' tk g V' => ?_) (notSlice_sub hs _ _)
      exact h v' h' tk ad1 hf1 (S1.grow g) (E1.trans g.ext) V'
    · cases e
  · cases e
theorem x_tl {f : Ev} {o : Expr} {k : Nat} {q r p : Pos} (ho : XOk prog w cls h₀ env A f o) :
    XOk prog w cls h₀ env A (fun ρ σ => (f ρ σ).bind fun (u, σ) => (match u with
      | .tup (_ :: xs) => if fits xs then some (.tup xs, σ) else Option.none
      | _ => Option.none)) (.Subscript o (.Slice (some (.Constant (.int 1) k q)) none none r) p) := fun hE ρ σ σ' a ad hf m oa s Q E e S F h => by
  obtain ⟨⟨u, σ1⟩, e1, e⟩ := Option.bind_eq_some_iff.mp e
  dsimp only at e
  split at e
  · rename_i x xs
    split at e
    · rename_i hfit
      cases e
      refine Subscript_ (ho _ _ _ _ _ _ _ _ _ _ _ _ e1 S F fun v1 h1 tk1 ad1 hf1 S1 E1 V1 => ?_)
      refine wpAny_Slice ?_
      show wpAny _ A (eval (.Constant (.int 1) k q) env) _ _ _
      refine wpAny_Constant_int ?_
      rw [evalPart_none]
      refine wpAny_pure (wpAny_pure ?_)
      have g : Grow h1 (h1.push { cls := .type "slice", data := .fields #[.int 1 tk1, .none, .none] }) := Grow.push _ _
      refine prim_tl (t := tk1) (S1.grow g) hfit V1 (Heap.IsSliceOf.new ..) (fun _ _ => rfl) fun v' h' tk hf' S' E' V' => ?_
      exact h v' h' tk ad1 hf' S' (E1.trans (g.ext.trans E')) V'
    · cases e
  · cases e
theorem part_ok {f : Loc → Sto → Option (Option AV × Sto)} {x : Option Expr} (h : (x = none ∧ f = fun _ σ => some (none, σ)) ∨ ∃ e g, x = some e ∧ XOk prog w cls h₀ env A g e ∧ f = fun ρ σ => (g ρ σ).map fun (v, σ) => (some v, σ)) :
    ∀ (hE : Fz) (ρ : Loc) (σ σ' : Sto) (a : Option AV) (ad : Ad) (hf : Fz) (m : Str → Option Value) (oa : Nat → Addr) (s : Shared) (Q : Value → Shared → Prop) (E : Value → Shared → Prop), f ρ σ = some (a, σ') → Sit prog w cls h₀ ad hf σ s.heap → Fra prog w hE env ρ ad hf s.heap m oa →
    (∀ v h' tk ad' hf', Sit prog w cls h₀ ad' hf' σ' h' → Ext ad hf s.heap ad' hf' h' → PartV prog w ad' hf' a v → Q v { s with heap := h', toks := tk }) → wpAny (model prog w) A (evalPart x env) Q E s := by
  intro hE ρ σ σ' a ad hf m oa s Q E q S F hq
  rcases h with ⟨rfl, rfl⟩ | ⟨e, g, rfl, hx, rfl⟩
  · cases q
    rw [evalPart_none]
    exact wpAny_pure (hq _ s.heap s.toks ad hf S (Ext.refl _ _ _) rfl)
  · obtain ⟨⟨v, σ1⟩, e1, q⟩ := Option.map_eq_some_iff.mp q
    cases q
    exact hx _ _ _ _ _ _ _ _ _ _ _ _ e1 S F fun v1 h1 tk1 ad1 hf1 S1 E1 V1 => hq v1 h1 tk1 ad1 hf1 S1 E1 V1
end
end Mine
/-! part MY -/
namespace Mine
open PySem PySem.W PyProof.Rows

noncomputable def CallOk (prog : Program) (w : World) (cls : Nat → Addr) (h₀ : Heap) (fa : Nat → Addr) (cf : Callf) (A : Around) : Prop :=
  ∀ (k : Nat) (l : List AV) (σ : Sto) (r : AV) (σ' : Sto) (ad : Ad) (hf : Fz) (s : Shared) (vals : List Value) (R : Result → Shared → Prop), (isFn k = true ∨ isCls k = true) → cf k l σ = some (r, σ') → Sit prog w cls h₀ ad hf σ s.heap → VRels prog w ad hf l vals →
    (∀ v h' tk ad' hf', Sit prog w cls h₀ ad' hf' σ' h' → Ext ad hf s.heap ad' hf' h' → VRel prog w ad' hf' r v → R (.ok (.ret v)) { s with heap := h', toks := tk }) → codeAny (model prog w) A (.call (.ref (fa k)) ⟨vals, []⟩) R s

theorem room_under {A : Around} {n : Nat} (C : Addr) (vals : List Value) (h : Room A (n + 1)) : Room (A.under (.builtin "type.__call__" ⟨.ref C :: vals, []⟩)) n := by
  obtain ⟨h1, h2, h3⟩ := h
  refine ⟨h1, ?_, ?_⟩
  · show A.depth + (Code.builtin "type.__call__" ⟨.ref C :: vals, []⟩).weight + 4 * (n + 1) < recursionLimit
    have : (Code.builtin "type.__call__" ⟨.ref C :: vals, []⟩).weight ≤ 1 := by
      have e1 : (Code.builtin "type.__call__" ⟨.ref C :: vals, []⟩).frames = 0 := rfl
      have e2 : (Code.builtin "type.__call__" ⟨.ref C :: vals, []⟩).isGuard = false := rfl
      have e3 : (Code.builtin "type.__call__" ⟨.ref C :: vals, []⟩).isCaller = false := rfl
      unfold Code.weight
      rw [e1, e2, e3]
      split <;> simp
    omega
  · show A.units + (Code.builtin "type.__call__" ⟨.ref C :: vals, []⟩).cUnits + 16 * (n + 1) < cLine
    have : (Code.builtin "type.__call__" ⟨.ref C :: vals, []⟩).cUnits = 1 := rfl
    omega

section
variable {prog : Program} {w : World} {cls : Nat → Addr} {h₀ : Heap} {tb : Nat → Option AV} {fa : Nat → Addr} {K : Frag} {mg mb : Str → Option Value} {env : Env} {A : Around} {ad ad' : Ad} {hf hf' hE : Fz} {σ : Sto} {ρ : Loc} {s : Shared} {m : Str → Option Value} {oa : Nat → Addr} {E : Value → Shared → Prop} {cf : Callf}

theorem plain_any {es : List Expr} (h : es.all notStar = true) (env : Env) (pos : Pos) : (backTo pos (starEach es env)).any (·.1) = false := by
  induction es with
  | nil => rfl
  | cons e es ih =>
    rw [List.all_cons, Bool.and_eq_true] at h
    rw [starEach_cons h.1]
    show (false || (backTo pos (starEach es env)).any (·.1)) = false
    rw [ih h.2]; rfl
theorem bi_call {fv : Value} {n : Str} {p q : Pos} {e : Expr} {rest : List Expr} {Q : Value → Shared → Prop} (W : Wd prog w cls h₀ tb fa K mg mb) (S : Sit prog w cls h₀ ad hf σ s.heap) (F : Fra prog w hE env ρ ad hf s.heap m oa) (hk : env.kindOf n = some .globalImplicit) (hd : (n == ("__debug__" : Str)) = false)
    (hv : (n, fv) ∈ biList) (hfv : (∃ id, fv = .builtin id) ∨ ∃ T, fv = .type T) (hs : (e :: rest).all notStar = true) (h : wpAny (model prog w) A (spliced (backTo q (starEach (e :: rest) env))) (fun vs s₁ => wpAny (model prog w) A (call fv vs) Q E s₁) E s) :
    wpAny (model prog w) A (eval (.Call (.Name n p) (e :: rest) [] q) env) Q E s := by
  rw [List.all_cons, Bool.and_eq_true] at hs
  refine wpAny_Call_NameR (bi_name W S F hk hd hv ?_)
  rcases hfv with ⟨id, rfl⟩ | ⟨T, rfl⟩
  · exact PyProof.Rows.callWith_builtin1 h (starEach_cons hs.1 _ _) (plain_any hs.2 _ _)
  · exact PyProof.Rows.callWith_type1 h (starEach_cons hs.1 _ _) (plain_any hs.2 _ _)
theorem bi_call1 {fv : Value} {n : Str} {p q : Pos} {x : Expr} {f : Ev} {r : AV → Option AV} (W : Wd prog w cls h₀ tb fa K mg mb) (hk : env.kindOf n = some .globalImplicit) (hd : (n == ("__debug__" : Str)) = false) (hv : (n, fv) ∈ biList) (hfv : (∃ id, fv = .builtin id) ∨ ∃ T, fv = .type T) (hs : notStar x = true)
    (hx : XOk prog w cls h₀ env A f x)
    (prim : ∀ (σ : Sto) (a b : AV) (u : Value) (ad : Ad) (hf : Fz) (s : Shared) (Q : Value → Shared → Prop) (E : Value → Shared → Prop), r a = some b → Sit prog w cls h₀ ad hf σ s.heap → VRel prog w ad hf a u →
      (∀ v' h' tk hf', Sit prog w cls h₀ ad hf' σ h' → Ext ad hf s.heap ad hf' h' → VRel prog w ad hf' b v' → Q v' { s with heap := h', toks := tk }) → wpAny (model prog w) A (call fv [u]) Q E s) :
    XOk prog w cls h₀ env A (fun ρ σ => (f ρ σ).bind fun (v, σ) => (r v).map fun r => (r, σ)) (.Call (.Name n p) [x] [] q) := fun hE ρ σ σ' a ad hf m oa s Q E e S F h => by
  obtain ⟨⟨v, σ1⟩, e1, e⟩ := Option.bind_eq_some_iff.mp e
  obtain ⟨b, e2, e⟩ := Option.map_eq_some_iff.mp e
  cases e
  refine bi_call W S F hk hd hv hfv (by rw [List.all_cons, hs]; rfl) (wpAny_items_cons (hx _ _ _ _ _ _ _ _ _ _ _ _ e1 S F fun v1 h1 tk1 ad1 hf1 S1 E1 V1 => wpAny_items_nil ?_) (starEach_cons hs _ _))
  exact prim _ _ _ _ _ _ _ _ _ e2 S1 V1 fun v' h' tk hf' S' E' V' => h v' h' tk ad1 hf' S' (E1.trans E') V'
theorem pure_prim {b : AV} {Q : Value → Shared → Prop} (S : Sit prog w cls h₀ ad hf σ s.heap) (h : ∀ v' h' tk hf', Sit prog w cls h₀ ad hf' σ h' → Ext ad hf s.heap ad hf' h' → VRel prog w ad hf' b v' → Q v' { s with heap := h', toks := tk }) : PureQ prog w ad hf s b Q :=
  fun v' h' tk g V => h v' h' tk hf (S.grow g) g.ext V
theorem x_isi {f : Ev} {T : Nat} {p q r : Pos} {x : Expr} (W : Wd prog w cls h₀ tb fa K mg mb) (hT : T ≤ 2) (hk : env.kindOf ("isinstance" : Str) = some .globalImplicit) (hk2 : env.kindOf (Str.ofString (tyName T)) = some .globalImplicit) (hs : notStar x = true) (hx : XOk prog w cls h₀ env A f x) :
    XOk prog w cls h₀ env A (fun ρ σ => (f ρ σ).bind fun (v, σ) => (isiV T v).map fun r => (.bool r, σ)) (.Call (.Name ("isinstance" : Str) p) [x, .Name (Str.ofString (tyName T)) r] [] q) := fun hE ρ σ σ' a ad hf m oa s Q E e S F h => by
  obtain ⟨⟨v, σ1⟩, e1, e⟩ := Option.bind_eq_some_iff.mp e
  obtain ⟨b, e2, e⟩ := Option.map_eq_some_iff.mp e
  cases e
  have hty : (Str.ofString (tyName T), Value.type (tyName T)) ∈ biList ∧ (Str.ofString (tyName T) == ("__debug__" : Str)) = false := by
    rcases T with _ | _ | _ | T
    · exact ⟨by simp [biList, tyName], by decide +kernel⟩
    · exact ⟨by simp [biList, tyName], by decide +kernel⟩
    · exact ⟨by simp [biList, tyName], by decide +kernel⟩
    · omega
  refine bi_call W S F hk (by decide +kernel) (fv := .builtin "isinstance") (by simp [biList]) (.inl ⟨_, rfl⟩) (by rw [List.all_cons, hs]; rfl)
    (wpAny_items_cons (hx _ _ _ _ _ _ _ _ _ _ _ _ e1 S F fun v1 h1 tk1 ad1 hf1 S1 E1 V1 => wpAny_items_cons (bi_name W S1 (F.ext E1) hk2 hty.2 hty.1 (wpAny_items_nil ?_)) rfl) (starEach_cons hs _ _))
  exact prim_isi S1 hT e2 V1 fun tk => h _ h1 tk ad1 hf1 S1 E1 (by rw [VRel])
theorem x_lenset {f : Ev} {p q p' q' : Pos} {x : Expr} (W : Wd prog w cls h₀ tb fa K mg mb) (hh : A.handled = none) (hk : env.kindOf ("len" : Str) = some .globalImplicit) (hk2 : env.kindOf ("set" : Str) = some .globalImplicit) (hs : notStar x = true) (hx : XOk prog w cls h₀ env A f x) :
    XOk prog w cls h₀ env A (fun ρ σ => (f ρ σ).bind fun (v, σ) => (lensetV v).map fun r => (r, σ)) (.Call (.Name ("len" : Str) p) [.Call (.Name ("set" : Str) p') [x] [] q'] [] q) := fun hE ρ σ σ' a ad hf m oa s Q E e S F h => by
  obtain ⟨⟨v, σ1⟩, e1, e⟩ := Option.bind_eq_some_iff.mp e
  obtain ⟨b, e2, e⟩ := Option.map_eq_some_iff.mp e
  cases e
  refine bi_call W S F hk (by decide +kernel) (fv := .builtin "len") (by simp [biList]) (.inl ⟨_, rfl⟩) rfl (wpAny_items_cons ?_ rfl)
  refine bi_call W S F hk2 (by decide +kernel) (fv := .type "set") (by simp [biList]) (.inr ⟨_, rfl⟩) (by rw [List.all_cons, hs]; rfl)
    (wpAny_items_cons (hx _ _ _ _ _ _ _ _ _ _ _ _ e1 S F fun v1 h1 tk1 ad1 hf1 S1 E1 V1 => wpAny_items_nil ?_) (starEach_cons hs _ _))
  refine wpAny_mono (prim_lenset (Q := Q) S1 hh e2 V1 (pure_prim S1 fun v' h' tk hf' S' E' V' => h v' h' tk ad1 hf' S' (E1.trans E') V')) (fun v s₁ h₁ => wpAny_items_nil h₁) fun _ _ e => e
theorem x_fn {f : Evs} {k : Nat} {e : Expr} {rest : List Expr} {p q : Pos} (W : Wd prog w cls h₀ tb fa K mg mb) (C : CallOk prog w cls h₀ fa cf A) (hw : k < wmax) (hf' : isFn k = true) (hk : env.kindOf (Wn k) = some .globalImplicit) (hs : (e :: rest).all notStar = true) (hx : XsOk prog w cls h₀ env A f (e :: rest)) :
    XOk prog w cls h₀ env A (fun ρ σ => (f ρ σ).bind fun (l, σ) => cf k l σ) (.Call (.Name (Wn k) p) (e :: rest) [] q) := fun hE ρ σ σ' a ad hf m oa s Q E eq S F h => by
  obtain ⟨⟨l, σ1⟩, e1, e2⟩ := Option.bind_eq_some_iff.mp eq
  have hs' := hs
  rw [List.all_cons, Bool.and_eq_true] at hs'
  obtain ⟨g1, g2⟩ := W.fn k hf'
  refine wpAny_Call_NameR (glob_name W S F hk (Wn_plain hw).1 g1 ?_)
  refine callWith_K (K := K) W.X g2 (hx _ _ _ _ _ _ _ _ _ _ _ _ _ e1 S F fun vs h1 tk1 ad1 hf1 S1 E1 V1 => ⟨W.X.keeps S1.keep0, ?_⟩) (starEach_cons hs'.1 _ _) (plain_any hs'.2 _ _)
  refine wpAny_call (C k l σ1 a σ' ad1 hf1 _ vs _ (.inl hf') e2 S1 V1 fun v h' tk ad' hf' S' E' V' => ?_)
  exact h v h' tk ad' hf' S' (E1.trans E') V'
theorem x_new {f : Evs} {k : Nat} {e : Expr} {rest : List Expr} {p q : Pos} (W : Wd prog w cls h₀ tb fa K mg mb) (C : ∀ vals, CallOk prog w cls h₀ fa cf (A.under (.builtin "type.__call__" ⟨.ref (cls k) :: vals, []⟩))) (hw : k < wmax) (hf' : isCls k = true) (hk : env.kindOf (Wn k) = some .globalImplicit)
    (hs : (e :: rest).all notStar = true) (hx : XsOk prog w cls h₀ env A f (e :: rest)) :
    XOk prog w cls h₀ env A (fun ρ σ => (f ρ σ).bind fun (l, σ) => (cf k (.obj σ.length :: l) (σ ++ [.inst k []])).bind fun (r, σ') => match r with
      | .none => some (.obj σ.length, σ')
      | _ => Option.none) (.Call (.Name (Wn k) p) (e :: rest) [] q) := fun hE ρ σ σ' a ad hf m oa s Q E eq S F h => by
  obtain ⟨⟨l, σ1⟩, e1, eq⟩ := Option.bind_eq_some_iff.mp eq
  obtain ⟨⟨r, σ2⟩, e2, eq⟩ := Option.bind_eq_some_iff.mp eq
  dsimp only at eq
  split at eq
  · cases eq
    have hs' := hs
    rw [List.all_cons, Bool.and_eq_true] at hs'
    obtain ⟨g1, g2, g3⟩ := W.cl k hf'
    refine wpAny_Call_NameR (glob_name W S F hk (Wn_plain hw).1 g1 ?_)
    refine callWith_K (K := K) W.X g2 (hx _ _ _ _ _ _ _ _ _ _ _ _ _ e1 S F fun vs h1 tk1 ad1 hf1 S1 E1 V1 => ⟨W.X.keeps S1.keep0, ?_⟩) (starEach_cons hs'.1 _ _) (plain_any hs'.2 _ _)
    refine wpAny_call (make_inst (c := k) S1 (W.X.keeps S1.keep0) g3 fun ad2 h2 S2 E2 x Vx => ?_)
    refine C vs k _ _ _ _ ad2 hf1 _ (.ref x :: vs) _ (.inr hf') e2 S2 (VRels.cons Vx (V1.mono E2.pre E2.hm)) fun v h' tk ad' hf' S' E' V' => ?_
    rw [VRel] at V'
    subst V'
    exact ⟨rfl, h _ h' tk ad' hf' S' (E1.trans (E2.trans E')) (Vx.mono E'.pre E'.hm)⟩
  · cases eq
theorem x_dget {f g k : Ev} {o a b : Expr} {ap p : Pos} (hc : callBase o = false) (hl : (ap.endLine == p.line) = true) (h1 : notStar a = true) (h2 : notStar b = true) (ho : XOk prog w cls h₀ env A f o) (ha : XOk prog w cls h₀ env A g a) (hb : XOk prog w cls h₀ env A k b) :
    XOk prog w cls h₀ env A (fun ρ σ => (f ρ σ).bind fun (u, σ) => (g ρ σ).bind fun (v, σ) => (k ρ σ).bind fun (w, σ) => (match u with
      | .dct ks vs => (keyOf ks vs v).map fun r => (r.getD w, σ)
      | _ => Option.none)) (.Call (.Attribute o ("get" : Str) ap) [a, b] [] p) := fun hE ρ σ σ' r ad hf m oa s Q E eq S F h => by
  obtain ⟨⟨u, σ1⟩, e1, eq⟩ := Option.bind_eq_some_iff.mp eq
  obtain ⟨⟨v, σ2⟩, e2, eq⟩ := Option.bind_eq_some_iff.mp eq
  obtain ⟨⟨x, σ3⟩, e3, eq⟩ := Option.bind_eq_some_iff.mp eq
  dsimp only at eq
  split at eq
  · rename_i ks us
    obtain ⟨r', e4, eq⟩ := Option.map_eq_some_iff.mp eq
    cases eq
    refine wpAny_Call_method2_late (attrBase_is hc _ _ _) hl (by rw [starEach_cons h1, starEach_cons h2]; rfl) (ho _ _ _ _ _ _ _ _ _ _ _ _ e1 S F fun v1 g1 tk1 ad1 hf1 S1 E1 V1 => ?_)
    refine meth_dget (h₀ := h₀) (cls := cls) S1 V1 (ha _ _ _ _ _ _ _ _ _ _ _ _ e2 S1 (F.ext E1) fun v2 g2 tk2 ad2 hf2 S2 E2 V2 => hb _ _ _ _ _ _ _ _ _ _ _ _ e3 S2 ((F.ext E1).ext E2) fun v3 g3 tk3 ad3 hf3 S3 E3 V3 => ?_)
    have E23 := E2.trans E3
    refine ⟨v, r', ad3, hf3, σ', S3, V1.mono E23.pre E23.hm, V2.mono E3.pre E3.hm, e4, fun y tk hy => ?_⟩
    refine h y g3 tk ad3 hf3 S3 (E1.trans E23) ?_
    rcases hy with ⟨c, rfl, hy⟩ | ⟨rfl, rfl⟩
    · exact hy
    · exact V3
  · cases eq
end
end Mine
/-! part MZ -/
namespace Mine
open PySem PySem.W PyProof.Rows

noncomputable def flat : List (Value × Value) → List Value
  | [] => []
  | (a, b) :: r => a :: b :: flat r
section
variable {prog : Program} {w : World} {cls : Nat → Addr} {h₀ : Heap} {tb : Nat → Option AV} {fa : Nat → Addr} {K : Frag} {mg mb : Str → Option Value} {env : Env} {A : Around} {ad ad' : Ad} {hf hf' hE : Fz} {σ : Sto} {ρ : Loc} {s : Shared} {m : Str → Option Value} {oa : Nat → Addr} {E : Value → Shared → Prop} {cf : Callf}

/-! dict displays -/
noncomputable def PsOk (prog : Program) (w : World) (cls : Nat → Addr) (h₀ : Heap) (env : Env) (A : Around) (f : Evs) (ks : List (Option Expr)) (vs : List Expr) : Prop :=
  ∀ (hE : Fz) (ρ : Loc) (σ σ' : Sto) (l : List AV) (ad : Ad) (hf : Fz) (m : Str → Option Value) (oa : Nat → Addr) (s : Shared) (pos : Pos) (Q : List (Value × Value) → Shared → Prop) (E : Value → Shared → Prop), f ρ σ = some (l, σ') → Sit prog w cls h₀ ad hf σ s.heap → Fra prog w hE env ρ ad hf s.heap m oa →
    (∀ prs h' tk ad' hf', Sit prog w cls h₀ ad' hf' σ' h' → Ext ad hf s.heap ad' hf' h' → VRels prog w ad' hf' l (flat prs) → Q prs { s with heap := h', toks := tk }) → wpAny (model prog w) A (evalPairs (pairTrees ks vs env pos)) Q E s
theorem ps_nil : PsOk prog w cls h₀ env A (fun _ σ => some ([], σ)) [] [] := fun hE ρ σ σ' l ad hf m oa s pos Q E e S F h => by
  cases e
  exact pairTrees_nil_walk (h [] s.heap s.toks ad hf S (Ext.refl _ _ _) VRels.nil)
theorem ps_cons {f g : Ev} {r : Evs} {k v : Expr} {ks : List (Option Expr)} {vs : List Expr} (hk : XOk prog w cls h₀ env A f k) (hv : XOk prog w cls h₀ env A g v) (hr : PsOk prog w cls h₀ env A r ks vs) :
    PsOk prog w cls h₀ env A (fun ρ σ => (f ρ σ).bind fun (a, σ) => (((g ρ σ).bind fun (b, σ) => (r ρ σ).map fun (l, σ) => (b :: l, σ))).map fun (l, σ) => (a :: l, σ)) (some k :: ks) (v :: vs) := fun hE ρ σ σ' l ad hf m oa s pos Q E q S F h => by
  obtain ⟨⟨a, σ1⟩, e1, q⟩ := Option.bind_eq_some_iff.mp q
  obtain ⟨⟨l1, σ2⟩, e2, q⟩ := Option.map_eq_some_iff.mp q
  cases q
  obtain ⟨⟨b, σ3⟩, e3, e2⟩ := Option.bind_eq_some_iff.mp e2
  obtain ⟨⟨l2, σ4⟩, e4, e2⟩ := Option.map_eq_some_iff.mp e2
  cases e2
  refine pairTrees_cons_walk (hk _ _ _ _ _ _ _ _ _ _ _ _ e1 S F fun v1 h1 tk1 ad1 hf1 S1 E1 V1 => ?_)
  refine hv _ _ _ _ _ _ _ _ _ _ _ _ e3 S1 (F.ext E1) fun v2 h2 tk2 ad2 hf2 S2 E2 V2 => ?_
  refine hr _ _ _ _ _ _ _ _ _ _ _ _ _ e4 S2 ((F.ext E1).ext E2) fun prs h3 tk3 ad3 hf3 S3 E3 V3 => ?_
  exact h _ h3 tk3 ad3 hf3 S3 (E1.trans (E2.trans E3)) (VRels.cons (V1.mono (E2.trans E3).pre (E2.trans E3).hm) (VRels.cons (V2.mono E3.pre E3.hm) V3))
theorem halves_rel : ∀ {l ka va : List AV} {prs : List (Value × Value)}, halves l = some (ka, va) → VRels prog w ad hf l (flat prs) → VRels prog w ad hf ka (prs.map (·.1)) ∧ VRels prog w ad hf va (prs.map (·.2))
  | [], ka, va, prs, e, V => by
    cases e
    cases prs with
    | nil => exact ⟨VRels.nil, VRels.nil⟩
    | cons p prs => rw [VRels] at V; cases V
  | [_], _, _, _, e, _ => by cases e
  | k :: v :: r, ka, va, prs, e, V => by
    obtain ⟨⟨ka', va'⟩, e1, e⟩ := Option.map_eq_some_iff.mp e
    cases e
    cases prs with
    | nil => rw [VRels] at V; obtain ⟨_, _, z, _⟩ := V; cases z
    | cons p prs =>
      rw [VRels] at V
      obtain ⟨v1, q1, z1, V1, V⟩ := V
      rw [VRels] at V
      obtain ⟨v2, q2, z2, V2, V⟩ := V
      obtain ⟨p1, p2⟩ := p
      cases z1
      cases z2
      obtain ⟨i1, i2⟩ := halves_rel e1 V
      exact ⟨VRels.cons V1 i1, VRels.cons V2 i2⟩
theorem nodupI_is : ∀ {l : List Int}, nodupI l = true → l.Nodup
  | [], _ => List.nodup_nil
  | a :: r, h => by
    simp only [nodupI, Bool.and_eq_true, Bool.not_eq_true'] at h
    rw [List.nodup_cons]
    exact ⟨fun hm => by rw [List.contains_eq_mem] at h; simp [hm] at h, nodupI_is h.2⟩
theorem nodupN_is : ∀ {l : List Nat}, nodupN l = true → l.Nodup
  | [], _ => List.nodup_nil
  | a :: r, h => by
    simp only [nodupN, Bool.and_eq_true, Bool.not_eq_true'] at h
    rw [List.nodup_cons]
    exact ⟨fun hm => by rw [List.contains_eq_mem] at h; simp [hm] at h, nodupN_is h.2⟩
theorem intL_is : ∀ {l : List AV} {ns : List Int}, intL l = some ns → l = ns.map AV.int
  | [], _, e => by cases e; rfl
  | .int i :: r, _, e => by
    obtain ⟨k, hk, rfl⟩ := Option.map_eq_some_iff.mp e
    rw [List.map_cons, intL_is hk]
  | .none :: r, _, e => by cases e
  | .bool _ :: r, _, e => by cases e
  | .str _ :: r, _, e => by cases e
  | .tup _ :: r, _, e => by cases e
  | .lst _ :: r, _, e => by cases e
  | .dct _ _ :: r, _, e => by cases e
  | .obj _ :: r, _, e => by cases e
theorem strL_is : ∀ {l : List AV} {ns : List Nat}, strL l = some ns → l = ns.map AV.str
  | [], _, e => by cases e; rfl
  | .str i :: r, _, e => by
    obtain ⟨k, hk, rfl⟩ := Option.map_eq_some_iff.mp e
    rw [List.map_cons, strL_is hk]
  | .none :: r, _, e => by cases e
  | .bool _ :: r, _, e => by cases e
  | .int _ :: r, _, e => by cases e
  | .tup _ :: r, _, e => by cases e
  | .lst _ :: r, _, e => by cases e
  | .dct _ _ :: r, _, e => by cases e
  | .obj _ :: r, _, e => by cases e
theorem carriesI : ∀ {ns : List Int} {prs : List (Value × Value)}, VRels prog w ad hf (ns.map AV.int) (prs.map (·.1)) → Carries (intKind prog w) prs (ns.zip (prs.map (·.2))) ∧ ns.length = prs.length
  | [], [], _ => ⟨trivial, rfl⟩
  | [], p :: prs, V => by rw [List.map_nil, VRels] at V; cases V
  | n :: ns, [], V => by rw [List.map_cons, VRels] at V; obtain ⟨_, _, z, _⟩ := V; cases z
  | n :: ns, (p1, p2) :: prs, V => by
    rw [List.map_cons, VRels] at V
    obtain ⟨v, q, z, V1, V⟩ := V
    cases z
    rw [VRel] at V1
    obtain ⟨t, rfl⟩ := V1
    obtain ⟨i1, i2⟩ := carriesI V
    exact ⟨⟨intKind_is prog w n t, rfl, i1⟩, congrArg (· + 1) i2⟩
theorem carriesS : ∀ {ns : List Nat} {prs : List (Value × Value)}, VRels prog w ad hf (ns.map AV.str) (prs.map (·.1)) → Carries (PySem.strKind prog w) prs ((ns.map Wn).zip (prs.map (·.2))) ∧ ns.length = prs.length ∧ ∀ k ∈ ns, k < wmax
  | [], [], _ => ⟨trivial, rfl, fun _ h => by cases h⟩
  | [], p :: prs, V => by rw [List.map_nil, VRels] at V; cases V
  | n :: ns, [], V => by rw [List.map_cons, VRels] at V; obtain ⟨_, _, z, _⟩ := V; cases z
  | n :: ns, (p1, p2) :: prs, V => by
    rw [List.map_cons, VRels] at V
    obtain ⟨v, q, z, V1, V⟩ := V
    cases z
    rw [VRel] at V1
    obtain ⟨hn, t, rfl⟩ := V1
    obtain ⟨i1, i2, i3⟩ := carriesS V
    exact ⟨⟨strKind_is prog w _ t, rfl, i1⟩, congrArg (· + 1) i2, fun k hk => by
      rcases List.mem_cons.mp hk with rfl | hk
      · exact hn
      · exact i3 k hk⟩
theorem zip_fst {α β : Type} : ∀ {a : List α} {b : List β}, a.length = b.length → (a.zip b).map (·.1) = a
  | [], [], _ => rfl
  | [], _ :: _, h => by cases h
  | _ :: _, [], h => by cases h
  | x :: a, y :: b, h => by rw [List.zip_cons_cons, List.map_cons, zip_fst (Nat.succ.inj h)]
theorem map_Wn_nodup : ∀ {l : List Nat}, (∀ k ∈ l, k < wmax) → l.Nodup → (l.map Wn).Nodup
  | [], _, _ => List.nodup_nil
  | a :: r, h, n => by
    rw [List.nodup_cons] at n
    rw [List.map_cons, List.nodup_cons]
    refine ⟨fun hm => ?_, map_Wn_nodup (fun k hk => h k (List.mem_cons_of_mem _ hk)) n.2⟩
    obtain ⟨k, hk, e⟩ := List.mem_map.mp hm
    have := Wn_inj (h k (List.mem_cons_of_mem _ hk)) (h a List.mem_cons_self) e
    subst this
    exact n.1 hk
theorem x_dict {f : Evs} {ks : List (Option Expr)} {vs : List Expr} {p : Pos} (W : Wd prog w cls h₀ tb fa K mg mb) (hall : ks.all (·.isSome) = true) (hlen : ks.length = vs.length) (h0 : ks ≠ []) (h15 : ks.length ≤ 15) (hx : PsOk prog w cls h₀ env A f ks vs) :
    XOk prog w cls h₀ env A (fun ρ σ => (f ρ σ).bind fun (l, σ) => (halves l).bind fun p => if keysOk p.1 then some (.dct p.1 p.2, σ) else Option.none) (.Dict ks vs p) := fun hE ρ σ σ' a ad hf m oa s Q E q S F h => by
  obtain ⟨⟨l, σ1⟩, e1, q⟩ := Option.bind_eq_some_iff.mp q
  obtain ⟨⟨ka, va⟩, e2, q⟩ := Option.bind_eq_some_iff.mp q
  dsimp only at q
  split at q
  · rename_i hok
    cases q
    have g0 : Grow s.heap (s.heap.push { cls := .type "dict", data := .dict #[] }) := Grow.push _ _
    have dn : s.heap.get? s.heap.objs.size = none := size_none _
    have fr := S.fresh dn
    simp only [keysOk, Bool.and_eq_true, Bool.not_eq_true', decide_eq_true_eq] at hok
    obtain ⟨⟨hk15, hkne⟩, hkk⟩ := hok
    have kne : ka ≠ [] := fun z => by rw [z] at hkne; cases hkne
    have smod : (s.heap.objs.size == sysModules) = false := by
      obtain ⟨o, _, _, ho, _⟩ := W.gns
      have := Heap.lt_size (S.keep0 _ _ ho)
      rw [beq_eq_false_iff_ne]
      intro z
      rw [z] at this
      exact absurd this (by decide)
    -- the end of both kinds
    have fin : ∀ (prs : List (Value × Value)) (h1 : Heap) (tk1 : Nat) (ad1 : Ad) (hf1 : Fz), Sit prog w cls h₀ ad1 hf1 σ' h1 → Ext ad hf (s.heap.push { cls := .type "dict", data := .dict #[] }) ad1 hf1 h1 → VRels prog w ad1 hf1 va (prs.map (·.2)) →
        ∀ h' tk o, Heap.SameBut s.heap.objs.size h1 h' → h'.get? s.heap.objs.size = some o → DKeys prog w ka (prs.map (·.2)) o → Q (.ref s.heap.objs.size) { s with heap := h', toks := tk } := fun prs h1 tk1 ad1 hf1 S1 E1 V2 h' tk o hs ho dk => by
      have pd : hf1 s.heap.objs.size = none := E1.hn _ _ (Heap.get?_push_size _ rfl) fr.2 fr.1
      have po : Off ad1 s.heap.objs.size := E1.off (Heap.get?_push_size s.heap (o := { cls := .type "dict", data := .dict #[] }) rfl) fr.2
      have S2 := S1.touch hs pd po
      have E2 : Ext ad hf s.heap ad1 hf1 h' := (g0.ext.trans E1).touch hs dn
      refine h _ h' tk ad1 _ (S2.freeze ho pd po) (E2.freezeNew pd dn) ?_
      rw [VRel]
      exact ⟨_, o, _, rfl, fput_same, ⟨smod, kne⟩, V2.mono (pre_refl _) (fput_mono pd), dk⟩
    split at hkk
    · rename_i ns hns
      have ek := intL_is hns
      refine wpAny_Dict_walk (knd := intKind prog w) hall hlen h0 h15 (hx _ _ _ _ _ _ _ _ _ { s with heap := s.heap.push { cls := .type "dict", data := .dict #[] } } _ _ _ e1 (S.grow g0) (F.ext g0.ext) fun prs h1 tk1 ad1 hf1 S1 E1 V1 => ?_)
      obtain ⟨V2, V3⟩ := halves_rel e2 V1
      rw [ek] at V2
      obtain ⟨c1, c2⟩ := carriesI V2
      have nd : ((ns.zip (prs.map (·.2))).map (·.1)).Nodup := by rw [zip_fst (by simp [c2])]; exact nodupI_is hkk
      refine ⟨_, c1, ?_, fun h' hd hs => ?_⟩
      · obtain ⟨o', es, ep, e', r⟩ := Heap.DictOf.new (knd := intKind prog w) s.heap
        exact ⟨o', es, ep, E1.kp _ _ e' fr.2, r⟩
      · rw [merged_nil_of_nodup _ nd] at hd
        obtain ⟨o, ho, hdo⟩ := Heap.dictOf_iff.mp hd
        exact fin prs h1 tk1 ad1 hf1 S1 E1 V3 h' _ o hs ho (.inl ⟨ns, ek, by simp [c2], hdo⟩)
    · split at hkk
      · rename_i ns hns
        have ek := strL_is hns
        refine wpAny_Dict_walk (knd := PySem.strKind prog w) hall hlen h0 h15 (hx _ _ _ _ _ _ _ _ _ { s with heap := s.heap.push { cls := .type "dict", data := .dict #[] } } _ _ _ e1 (S.grow g0) (F.ext g0.ext) fun prs h1 tk1 ad1 hf1 S1 E1 V1 => ?_)
        obtain ⟨V2, V3⟩ := halves_rel e2 V1
        rw [ek] at V2
        obtain ⟨c1, c2, c3⟩ := carriesS V2
        have nd : (((ns.map Wn).zip (prs.map (·.2))).map (·.1)).Nodup := by rw [zip_fst (by simp [c2])]; exact map_Wn_nodup c3 (nodupN_is hkk)
        refine ⟨_, c1, ?_, fun h' hd hs => ?_⟩
        · obtain ⟨o', es, ep, e', r⟩ := Heap.DictOf.new (knd := PySem.strKind prog w) s.heap
          exact ⟨o', es, ep, E1.kp _ _ e' fr.2, r⟩
        · rw [merged_nil_of_nodup _ nd] at hd
          obtain ⟨o, ho, hdo⟩ := Heap.dictOf_iff.mp hd
          exact fin prs h1 tk1 ad1 hf1 S1 E1 V3 h' _ o hs ho (.inr ⟨ns, ek, by simp [c2], c3, hdo⟩)
      · cases hkk
  · cases q

/-! fresh lists -/
theorem y_cat {f g : Ev} {l r : Expr} {p : Pos} (ha : XOk prog w cls h₀ env A f l) (hb : XOk prog w cls h₀ env A g r) :
    YOk prog w cls h₀ env A (fun ρ σ => (f ρ σ).bind fun (u, σ) => (g ρ σ).bind fun (v, σ) => (match u, v with
      | .lst l, .lst m => if fits l && fits m then some (l ++ m, σ) else Option.none
      | _, _ => Option.none)) (.BinOp l .Add r p) := fun hE ρ σ σ' a ad hf m oa s Q E e S F h => by
  obtain ⟨⟨u, σ1⟩, e1, e⟩ := Option.bind_eq_some_iff.mp e
  obtain ⟨⟨v, σ2⟩, e2, e⟩ := Option.bind_eq_some_iff.mp e
  dsimp only at e
  split at e
  · split at e
    · rename_i hfit
      cases e
      refine wpAny_BinOp (ha _ _ _ _ _ _ _ _ _ _ _ _ e1 S F fun v1 h1 tk1 ad1 hf1 S1 E1 V1 => ?_)
      refine hb _ _ _ _ _ _ _ _ _ _ _ _ e2 S1 (F.ext E1) fun v2 h2 tk2 ad2 hf2 S2 E2 V2 => ?_
      refine prim_cat S2 hfit (V1.mono E2.pre E2.hm) V2 fun a vs n h' tk g n0 o R => ?_
      have sn : s.heap.get? a = none := by
        cases z : s.heap.get? a with
        | none => rfl
        | some x => obtain ⟨x', e'⟩ := (E1.trans E2).ke _ x z; have n0' : h2.get? a = none := n0; rw [n0'] at e'; cases e'
      exact h a vs n h' tk ad2 hf2 (S2.grow g) (E1.trans (E2.trans g.ext)) sn (S2.fresh n0).1 (S2.fresh n0).2 o R
    · cases e
  · cases e
theorem y_rep {f g : Ev} {l r : Expr} {p : Pos} (ha : XOk prog w cls h₀ env A f l) (hb : XOk prog w cls h₀ env A g r) :
    YOk prog w cls h₀ env A (fun ρ σ => (f ρ σ).bind fun (u, σ) => (g ρ σ).bind fun (v, σ) => (match u, v with
      | .lst [l], .int n => if decide (0 ≤ n) && decide (n ≤ 1000) then some (repL [l] n.toNat, σ) else Option.none
      | _, _ => Option.none)) (.BinOp l .Mult r p) := fun hE ρ σ σ' a ad hf m oa s Q E e S F h => by
  obtain ⟨⟨u, σ1⟩, e1, e⟩ := Option.bind_eq_some_iff.mp e
  obtain ⟨⟨v, σ2⟩, e2, e⟩ := Option.bind_eq_some_iff.mp e
  dsimp only at e
  split at e
  · split at e
    · rename_i hfit
      cases e
      refine wpAny_BinOp (ha _ _ _ _ _ _ _ _ _ _ _ _ e1 S F fun v1 h1 tk1 ad1 hf1 S1 E1 V1 => ?_)
      refine hb _ _ _ _ _ _ _ _ _ _ _ _ e2 S1 (F.ext E1) fun v2 h2 tk2 ad2 hf2 S2 E2 V2 => ?_
      refine prim_rep S2 hfit (V1.mono E2.pre E2.hm) V2 fun a vs n h' tk g n0 o R => ?_
      have sn : s.heap.get? a = none := by
        cases z : s.heap.get? a with
        | none => rfl
        | some x => obtain ⟨x', e'⟩ := (E1.trans E2).ke _ x z; have n0' : h2.get? a = none := n0; rw [n0'] at e'; cases e'
      exact h a vs n h' tk ad2 hf2 (S2.grow g) (E1.trans (E2.trans g.ext)) sn (S2.fresh n0).1 (S2.fresh n0).2 o R
    · cases e
  · cases e
end
end Mine
/-! part NA -/
namespace Mine
open PySem PySem.W PyProof.Rows

section
variable {prog : Program} {w : World} {cls : Nat → Addr} {h₀ : Heap} {tb : Nat → Option AV} {fa : Nat → Addr} {K : Frag} {mg mb : Str → Option Value} {env : Env} {A : Around} {ad ad' : Ad} {hf hf' hE : Fz} {σ σ' : Sto} {ρ : Loc} {s : Shared} {m : Str → Option Value} {oa : Nat → Addr} {E : Value → Shared → Prop} {cf : Callf}

theorem Ext.none {h h' : Heap} {a : Addr} (X : Ext ad hf h ad' hf' h') (n : h'.get? a = none) : h.get? a = none := by
  cases z : h.get? a with
  | none => rfl
  | some o => obtain ⟨o', e⟩ := X.ke a o z; rw [n] at e; cases e
theorem y_ite {f : Ev} {g k : Evs} {t x y : Expr} {p : Pos} (ht : TOk prog w cls h₀ env A f t) (hx : YOk prog w cls h₀ env A g x) (hy : YOk prog w cls h₀ env A k y) :
    YOk prog w cls h₀ env A (fun ρ σ => (f ρ σ).bind fun (v, σ) => (asB v).bind fun t => if t then g ρ σ else k ρ σ) (.IfExp t x y p) := fun hE ρ σ σ' a ad hf m oa s Q E q S F hq => by
  obtain ⟨⟨v, σ1⟩, e1, q⟩ := Option.bind_eq_some_iff.mp q
  obtain ⟨b, e2, q⟩ := Option.bind_eq_some_iff.mp q
  refine wpAny_IfExp (ht _ _ _ σ1 b _ _ _ _ _ _ _ (by show ((f ρ σ).bind _) = _; rw [e1]; show ((asB v).map _) = _; rw [e2]; rfl) S F fun h1 tk1 ad1 hf1 S1 E1 => ?_)
  cases b with
  | true => exact hx _ _ _ _ _ _ _ _ _ _ _ _ q S1 (F.ext E1) fun a vs n h2 tk2 ad2 hf2 S2 E2 n0 n1 n2 o V => hq a vs n h2 tk2 ad2 hf2 S2 (E1.trans E2) (E1.none n0) n1 n2 o V
  | false => exact hy _ _ _ _ _ _ _ _ _ _ _ _ q S1 (F.ext E1) fun a vs n h2 tk2 ad2 hf2 S2 E2 n0 n1 n2 o V => hq a vs n h2 tk2 ad2 hf2 S2 (E1.trans E2) (E1.none n0) n1 n2 o V
theorem y_listOf {f : Ev} {p q : Pos} {x : Expr} (W : Wd prog w cls h₀ tb fa K mg mb) (hk : env.kindOf ("list" : Str) = some .globalImplicit) (hs : notStar x = true) (hx : XOk prog w cls h₀ env A f x) :
    YOk prog w cls h₀ env A (fun ρ σ => (f ρ σ).bind fun (u, σ) => (match u with
      | .lst l => if fits l then some (l, σ) else Option.none
      | _ => Option.none)) (.Call (.Name ("list" : Str) p) [x] [] q) := fun hE ρ σ σ' a ad hf m oa s Q E e S F h => by
  obtain ⟨⟨v, σ1⟩, e1, e⟩ := Option.bind_eq_some_iff.mp e
  dsimp only at e
  split at e
  · split at e
    · rename_i hfit
      cases e
      refine bi_call W S F hk (by decide +kernel) (fv := .type "list") (by simp [biList]) (.inr ⟨_, rfl⟩) (by rw [List.all_cons, hs]; rfl)
        (wpAny_items_cons (hx _ _ _ _ _ _ _ _ _ _ _ _ e1 S F fun v1 h1 tk1 ad1 hf1 S1 E1 V1 => wpAny_items_nil ?_) (starEach_cons hs _ _))
      refine prim_listOf S1 hfit V1 fun a vs n h' tk g n0 o R => ?_
      exact h a vs n h' tk ad1 hf1 (S1.grow g) (E1.trans g.ext) (E1.none n0) (S1.fresh n0).1 (S1.fresh n0).2 o R
    · cases e
  · cases e
theorem y_zip {f g : Ev} {p q p' q' : Pos} {x y : Expr} (W : Wd prog w cls h₀ tb fa K mg mb) (hh : A.handled = none) (hk : env.kindOf ("list" : Str) = some .globalImplicit) (hk2 : env.kindOf ("zip" : Str) = some .globalImplicit) (hs : notStar x = true) (hs2 : notStar y = true)
    (hx : XOk prog w cls h₀ env A f x) (hy : XOk prog w cls h₀ env A g y) :
    YOk prog w cls h₀ env A (fun ρ σ => (f ρ σ).bind fun (u, σ) => (g ρ σ).bind fun (v, σ) => (match u, v with
      | .tup (a :: l), .tup (b :: m) => if fits (a :: l) then some (zipL (a :: l) (b :: m), σ) else Option.none
      | _, _ => Option.none)) (.Call (.Name ("list" : Str) p) [.Call (.Name ("zip" : Str) p') [x, y] [] q'] [] q) := fun hE ρ σ σ' a ad hf m oa s Q E e S F h => by
  obtain ⟨⟨u, σ1⟩, e1, e⟩ := Option.bind_eq_some_iff.mp e
  obtain ⟨⟨v, σ2⟩, e2, e⟩ := Option.bind_eq_some_iff.mp e
  dsimp only at e
  split at e
  · rename_i a l b m
    split at e
    · rename_i hfit
      cases e
      refine bi_call W S F hk (by decide +kernel) (fv := .type "list") (by simp [biList]) (.inr ⟨_, rfl⟩) rfl (wpAny_items_cons ?_ rfl)
      refine bi_call W S F hk2 (by decide +kernel) (fv := .type "zip") (by simp [biList]) (.inr ⟨_, rfl⟩) (by rw [List.all_cons, List.all_cons, hs, hs2]; rfl)
        (wpAny_items_cons (hx _ _ _ _ _ _ _ _ _ _ _ _ e1 S F fun v1 h1 tk1 ad1 hf1 S1 E1 V1 => wpAny_items_cons (hy _ _ _ _ _ _ _ _ _ _ _ _ e2 S1 (F.ext E1) fun v2 h2 tk2 ad2 hf2 S2 E2 V2 => wpAny_items_nil ?_) (starEach_cons hs2 _ _)) (starEach_cons hs _ _))
      refine wpAny_mono (prim_zip (Q := Q) (h₀ := h₀) (cls := cls) hh S2 hfit (V1.mono E2.pre E2.hm) V2 fun a vs n h' tk ad' hf' S' E' n0 n1 n2 o R => ?_) (fun v s₁ h₁ => wpAny_items_nil h₁) fun _ _ e => e
      exact h a vs n h' tk ad' hf' S' (E1.trans (E2.trans E')) (Ext.none (E1.trans E2) n0) n1 n2 o R
    · cases e
  · cases e
theorem y_slice {f : Ev} {fl fu : Loc → Sto → Option (Option AV × Sto)} {o : Expr} {l u : Option Expr} {r p : Pos} (ho : XOk prog w cls h₀ env A f o)
    (hl : (l = none ∧ fl = fun _ σ => some (none, σ)) ∨ ∃ e g, l = some e ∧ XOk prog w cls h₀ env A g e ∧ fl = fun ρ σ => (g ρ σ).map fun (v, σ) => (some v, σ))
    (hu : (u = none ∧ fu = fun _ σ => some (none, σ)) ∨ ∃ e g, u = some e ∧ XOk prog w cls h₀ env A g e ∧ fu = fun ρ σ => (g ρ σ).map fun (v, σ) => (some v, σ)) :
    YOk prog w cls h₀ env A (fun ρ σ => (f ρ σ).bind fun (u, σ) => (fl ρ σ).bind fun (l, σ) => (fu ρ σ).bind fun (h, σ) => (match u with
      | .lst xs => if fits xs then (cutL xs l h).map fun r => (r, σ) else Option.none
      | _ => Option.none)) (.Subscript o (.Slice l u none r) p) := fun hE ρ σ σ' a ad hf m oa s Q E e S F h => by
  obtain ⟨⟨v, σ1⟩, e1, e⟩ := Option.bind_eq_some_iff.mp e
  obtain ⟨⟨lo, σ2⟩, e2, e⟩ := Option.bind_eq_some_iff.mp e
  obtain ⟨⟨hi, σ3⟩, e3, e⟩ := Option.bind_eq_some_iff.mp e
  dsimp only at e
  split at e
  · split at e
    · rename_i hfit
      obtain ⟨r, e4, e⟩ := Option.map_eq_some_iff.mp e
      cases e
      refine Subscript_ (ho _ _ _ _ _ _ _ _ _ _ _ _ e1 S F fun v1 h1 tk1 ad1 hf1 S1 E1 V1 => ?_)
      refine wpAny_Slice (part_ok hl _ _ _ _ _ _ _ _ _ _ _ _ e2 S1 (F.ext E1) fun v2 h2 tk2 ad2 hf2 S2 E2 V2 => ?_)
      refine part_ok hu _ _ _ _ _ _ _ _ _ _ _ _ e3 S2 ((F.ext E1).ext E2) fun v3 h3 tk3 ad3 hf3 S3 E3 V3 => ?_
      rw [evalPart_none]
      refine wpAny_pure ?_
      have g : Grow h3 (h3.push { cls := .type "slice", data := .fields #[v2, v3, .none] }) := Grow.push _ _
      have S4 := S3.grow g
      have V1' := V1.mono (E2.trans E3).pre (E2.trans E3).hm
      obtain ⟨x, vs, n, rfl, T, R⟩ := hfLstX (s := { s with heap := h3.push { cls := .type "slice", data := .fields #[v2, v3, .none] } }) S4 V1'
      have V2' : PartV prog w ad3 hf3 lo v2 := by
        cases lo with
        | none => exact V2
        | some y => exact VRel.mono E3.pre E3.hm V2
      refine tail_any (s := { s with heap := h3.push { cls := .type "slice", data := .fields #[v2, v3, .none] }, toks := tk3 }) (PySem.IsL.isList T).typeIs slot_list_getitem.lookup (prim_slice (s := { s with heap := h3.push { cls := .type "slice", data := .fields #[v2, v3, .none] }, toks := tk3 }) S4 hfit e4 V1' V2' V3 (Heap.IsSliceOf.new ..) fun a vs n h' tk g' n0 o R => ?_) rfl
      have g2 := g.trans g'
      have n0' : h3.get? a = none := (g.ext (ad := ad) (hf := hf)).none n0
      exact h a vs n h' tk ad3 hf3 (S3.grow g2) ((E1.trans E2).trans (E3.trans g2.ext)) (Ext.none (E1.trans (E2.trans E3)) n0') (S3.fresh n0').1 (S3.fresh n0').2 o R
    · cases e
  · cases e
end
end Mine
/-! part NB -/
namespace Mine
open PySem PySem.W PyProof.Rows

noncomputable def cloAcc (cells : List (Str × Addr)) : List (Str × NameKind) → List (Str × Addr) → List (Str × Addr)
  | [], acc => acc
  | (n, k) :: r, acc => if k == NameKind.free then cloAcc cells r ((n, (cells.lookup n).getD 0) :: acc) else cloAcc cells r acc
theorem cloAcc_for {env : Env} : ∀ (names : List (Str × NameKind)) (acc : List (Str × Addr)), (∀ x ∈ names, x.2 = .free → ∃ c, env.cells.lookup x.1 = some c) →
    (forIn names acc fun x r => (match x with
      | (name, kind) => if (kind == NameKind.free) = true then do
          let a ← cellOf env name
          pure (ForInStep.yield ((name, a) :: r))
        else pure (ForInStep.yield r) : Sem (ForInStep (List (Str × Addr))))) = pure (cloAcc env.cells names acc)
  | [], acc, _ => rfl
  | (n, k) :: r, acc, h => by
    rw [List.forIn_cons]
    unfold cloAcc
    by_cases q : (k == NameKind.free) = true
    · obtain ⟨c, hc⟩ := h (n, k) List.mem_cons_self (beq_iff_eq.mp q)
      dsimp only at hc ⊢
      rw [if_pos q, if_pos q, hc]
      have e : cellOf env n = pure c := by unfold cellOf; rw [hc]
      rw [e, pure_bind, pure_bind]
      exact cloAcc_for r _ fun x hx => h x (List.mem_cons_of_mem _ hx)
    · dsimp only
      rw [if_neg q, if_neg q, pure_bind]
      exact cloAcc_for r _ fun x hx => h x (List.mem_cons_of_mem _ hx)
theorem cloAcc_eq {scope : Scope} {env : Env} (h : ∀ x ∈ scope.names, x.2 = .free → ∃ c, env.cells.lookup x.1 = some c) : closureFor scope env = pure (cloAcc env.cells scope.names []) := by
  have := cloAcc_for scope.names [] h
  unfold closureFor
  dsimp only [Id.run]
  exact (congrArg (fun t : Sem (List (Str × Addr)) => t >>= pure) this).trans (pure_bind _ _)
theorem cloAcc_keep {cells : List (Str × Addr)} {x : Str} : ∀ {names : List (Str × NameKind)} {acc : List (Str × Addr)}, (∃ c, acc.lookup x = some c) → ∃ c, (cloAcc cells names acc).lookup x = some c
  | [], _, h => h
  | (n, k) :: r, acc, h => by
    unfold cloAcc
    split
    · refine cloAcc_keep ?_
      rw [List.lookup_cons]
      split
      · exact ⟨_, rfl⟩
      · exact h
    · exact cloAcc_keep h
theorem cloAcc_has {cells : List (Str × Addr)} {x : Str} : ∀ {names : List (Str × NameKind)} {acc : List (Str × Addr)}, (x, NameKind.free) ∈ names → ∃ c, (cloAcc cells names acc).lookup x = some c
  | [], _, h => by cases h
  | (n, k) :: r, acc, h => by
    unfold cloAcc
    rcases List.mem_cons.mp h with e | m
    · cases e
      rw [if_pos (by decide)]
      refine cloAcc_keep ?_
      rw [List.lookup_cons, beq_self_eq_true]
      exact ⟨_, rfl⟩
    · split
      · exact cloAcc_has m
      · exact cloAcc_has m
theorem cloAcc_sub {cells : List (Str × Addr)} {x : Str} {c : Addr} : ∀ {names : List (Str × NameKind)} {acc : List (Str × Addr)}, (∀ y ∈ names, y.2 = .free → ∃ c, cells.lookup y.1 = some c) → (∀ c, acc.lookup x = some c → cells.lookup x = some c) →
    (cloAcc cells names acc).lookup x = some c → cells.lookup x = some c
  | [], acc, _, h, e => h c e
  | (n, k) :: r, acc, hn, h, e => by
    unfold cloAcc at e
    split at e
    · rename_i q
      refine cloAcc_sub (fun y hy => hn y (List.mem_cons_of_mem _ hy)) (fun d hd => ?_) e
      rw [List.lookup_cons] at hd
      split at hd
      · rename_i z
        have z := beq_iff_eq.mp z
        subst z
        obtain ⟨c', hc'⟩ := hn (x, k) List.mem_cons_self (beq_iff_eq.mp q)
        dsimp only at hc'
        rw [hc'] at hd ⊢
        cases hd; rfl
      · exact h d hd
    · exact cloAcc_sub (fun y hy => hn y (List.mem_cons_of_mem _ hy)) h e
theorem lookup_mem {β : Type} {x : Str} {b : β} : ∀ {l : List (Str × β)}, l.lookup x = some b → (x, b) ∈ l
  | [], h => by cases h
  | (n, k) :: r, h => by
    rw [List.lookup_cons] at h
    split at h
    · rename_i z; cases h; rw [beq_iff_eq.mp z]; exact List.mem_cons_self
    · exact List.mem_cons_of_mem _ (lookup_mem h)
theorem relabel_is {scope : Scope} {env : Env} {x : Str} {k : NameKind} (h : (relabel scope env).names.lookup x = some k) : (x, k) ∈ scope.names ∨ (k = .cell ∧ (x, NameKind.free) ∈ scope.names) := by
  have m := lookup_mem h
  obtain ⟨⟨n, k'⟩, hm, e⟩ := List.mem_map.mp m
  dsimp only at e
  split at e
  · rename_i q
    cases e
    simp only [Bool.and_eq_true, beq_iff_eq] at q
    refine .inr ⟨rfl, ?_⟩
    rw [← q.1.1]; exact hm
  · cases e; exact .inl hm
theorem relabel_eq {scope : Scope} {env : Env} : relabel scope env = relabelS scope env.scope := rfl

section
variable {prog : Program} {w : World} {cls : Nat → Addr} {h₀ : Heap} {tb : Nat → Option AV} {fa : Nat → Addr} {K : Frag} {mg mb : Str → Option Value} {env : Env} {A : Around} {ad ad' : Ad} {hf hf' hE : Fz} {σ σ' : Sto} {ρ : Loc} {s : Shared} {m : Str → Option Value} {oa : Nat → Addr} {E : Value → Shared → Prop} {cf : Callf}

theorem CompFacts.back {s1 : Shared} {h1 : Heap} {tk1 : Nat} {ad1 : Ad} {hf1 : Fz} {l : List AV} {D C : Addr} {vs : List Value} {n : Nat} {h' : Heap} {m' : Str → Option Value} (e : s1 = { s with heap := h1, toks := tk1 }) (E1 : Ext ad hf s.heap ad1 hf1 h1)
    (c : CompFacts prog w cls h₀ ad1 hf1 s1 l σ' D C vs n h' ad' hf' m') : CompFacts prog w cls h₀ ad hf s l σ' D C vs n h' ad' hf' m' := by
  subst e
  exact ⟨E1.none c.d, E1.none c.c, c.dc, c.ns, c.o, c.S, E1.trans c.X, c.V, c.pd, c.pc⟩
noncomputable abbrev evComp (f : Ev) (t : Nat) (fc : Loc → Sto → Option (Bool × Sto)) (fx : Ev) : Evs := fun ρ σ => (f ρ σ).bind fun (s, σ) => (items s).bind fun L => if fits L then
      compL (fun v σ => (fc (put t (.val v) (valsOf ρ)) σ).bind fun (ok, σ) => if ok then (fx (put t (.val v) (valsOf ρ)) σ).map fun (r, σ) => (some r, σ) else some (Option.none, σ)) L σ
      else Option.none
theorem comp_core {elt iter : Expr} {ifs : List Expr} {t : Nat} {px pos pos' : Pos} {scope : Scope} {f fx : Ev} {fc : Loc → Sto → Option (Bool × Sto)} {use : Option (Value → Sem Unit)} {l : List AV} {Q : Value → Shared → Prop} (hh : A.handled = none)
    (ho : compOk scope env.scope t = true) (hns : notSet iter = true) (hx : XOk prog w cls h₀ env A f iter)
    (cond : ∀ cl C, BOk prog w cls h₀ (compEnvC scope cl C env) A fc (testsOf ifs (compEnvC scope cl C env))) (hel : ∀ cl C, XOk prog w cls h₀ (compEnvC scope cl C env) A fx elt)
    (e : evComp f t fc fx ρ σ = some (l, σ')) (S : Sit prog w cls h₀ ad hf σ s.heap) (F : Fra prog w hE env ρ ad hf s.heap m oa)
    (fin : ∀ D C vs n h' tk ad' hf' m', CompFacts prog w cls h₀ ad hf s l σ' D C vs n h' ad' hf' m' → compPost (model prog w) A E use Q (.ref D) C (.ok .next) { s with heap := h', toks := tk }) :
    wpAny (model prog w) A (comprehension (.ListComp elt [⟨.Name (Wn t) px, iter, ifs, 0⟩] scope pos) scope env pos' (newList []) false (eval iter env) use) Q E s := by
  simp only [compOk, Bool.and_eq_true, List.all_eq_true, decide_eq_true_eq, beq_iff_eq, bne_iff_ne, Bool.or_eq_true, ne_eq] at ho
  obtain ⟨⟨⟨⟨⟨⟨ht, hkind⟩, hcell⟩, hnames⟩, hxt⟩, hlo⟩, hfr⟩ := ho
  have free : ∀ x ∈ scope.names, x.2 = .free → env.kindOf x.1 = some .cell ∨ env.kindOf x.1 = some .free := fun x hx q => by
    rcases hfr x hx with (z | z) | z
    · exact absurd q z
    · exact .inl z
    · exact .inr z
  have cells : ∀ x ∈ scope.names, x.2 = .free → ∃ c, env.cells.lookup x.1 = some c := fun x hx q => by
    obtain ⟨c, _, hc, _⟩ := F.cl _ (free x hx q)
    exact ⟨c, hc⟩
  obtain ⟨⟨a, σ1⟩, e1, e⟩ := Option.bind_eq_some_iff.mp e
  obtain ⟨L, e2, e⟩ := Option.bind_eq_some_iff.mp e
  split at e
  rotate_left
  · cases e
  rename_i hfit
  refine wpAny_comprehension_free (use := use) rfl (notSet_folded hns env) (cloAcc_eq cells) hkind (fun x hx q => ?_) (hx _ _ _ _ _ _ _ _ _ _ _ _ e1 S F fun v1 h1 tk1 ad1 hf1 S1 E1 V1 => ?_)
  · rcases hnames x hx with z | z
    · exact absurd q z
    · exact z
  · refine comp_sound (R := fun acc C => compPost (model prog w) A E use Q acc C) (fc := fc) (fx := fx) hh S1 (F.ext E1) V1 e2 hfit ht (fun x c q => ?_) (fun C x q => ?_) (fun y hy => hcell y hy) hkind hxt (fun C k hk q => ?_) (cond _) (hel _) e ?_
    · exact cloAcc_sub cells (fun c z => by cases z) q
    · have fm : (x, NameKind.free) ∈ scope.names := by
        rcases q with q | q
        · rcases relabel_is q with z | z
          · exact absurd rfl (hcell _ z)
          · exact z.2
        · rcases relabel_is q with z | z
          · exact z
          · cases z.1
      exact ⟨cloAcc_has fm, free _ fm rfl⟩
    · rcases relabel_is q with z | z
      · rcases hlo _ z with (z' | z') | z'
        · exact absurd rfl z'
        · exact Wn_inj hk ht z'
        · have := (Wn_plain hk).2.2.1
          rw [show Wn k = (".0" : Str) from z'] at this
          exact absurd this (by decide)
      · cases z.1
    · intro D C vs n h' tk ad' hf' m' c
      exact fin D C vs n h' tk ad' hf' m' (c.back rfl E1)
theorem y_comp {elt iter : Expr} {ifs : List Expr} {t : Nat} {px pos : Pos} {scope : Scope} {f fx : Ev} {fc : Loc → Sto → Option (Bool × Sto)} (hh : A.handled = none)
    (ho : compOk scope env.scope t = true) (hns : notSet iter = true) (hx : XOk prog w cls h₀ env A f iter)
    (cond : ∀ cl C, BOk prog w cls h₀ (compEnvC scope cl C env) A fc (testsOf ifs (compEnvC scope cl C env))) (hel : ∀ cl C, XOk prog w cls h₀ (compEnvC scope cl C env) A fx elt) :
    YOk prog w cls h₀ env A (evComp f t fc fx) (.ListComp elt [⟨.Name (Wn t) px, iter, ifs, 0⟩] scope pos) := fun hE ρ σ σ' l ad hf m oa s Q E e S F h => by
  rw [eval_ListComp]
  refine comp_core (use := none) hh ho hns hx cond hel e S F fun D C vs n h' tk ad' hf' m' c => ?_
  refine ⟨m', c.ns, fun h'' hs => ?_⟩
  exact h D vs n h'' tk ad' hf' (c.S.touch hs c.pc.1 c.pc.2) (c.X.touch hs c.c) c.d c.pd.1 c.pd.2 ((hs.2 D c.dc).trans c.o) c.V
end
end Mine
/-! part NC -/
namespace Mine
open PySem PySem.W PyProof.Rows

structure AOk (prog : Program) (w : World) (cls : Nat → Addr) (h₀ : Heap) (fa : Nat → Addr) (cf : Callf) (A : Around) : Prop where
  h : A.handled = none
  u : A.units < cLine
  c : CallOk prog w cls h₀ fa cf A
  n : ∀ k vals, CallOk prog w cls h₀ fa cf (A.under (.builtin "type.__call__" ⟨.ref (cls k) :: vals, []⟩))

theorem evXs_len {cf : Callf} {tb : Nat → Option AV} {ρ : Loc} : ∀ {xs : List X} {σ σ' : Sto} {l : List AV}, evXs cf tb ρ xs σ = some (l, σ') → l.length = xs.length
  | [], σ, σ', l, e => by rw [evXs] at e; cases e; rfl
  | x :: r, σ, σ', l, e => by
    rw [evXs] at e
    obtain ⟨⟨v, σ1⟩, e1, e⟩ := Option.bind_eq_some_iff.mp e
    obtain ⟨⟨l', σ2⟩, e2, e⟩ := Option.map_eq_some_iff.mp e
    cases e
    exact congrArg (· + 1) (evXs_len e2)
theorem chkXs_len {sc : Scope} : ∀ {xs : List X} {es : List Expr}, chkXs sc xs es = true → xs.length = es.length ∧ es.all notStar = true
  | [], es, h => by
    (conv at h => lhs; whnf)
    have : es = [] := List.isEmpty_iff.mp h
    subst this; exact ⟨rfl, rfl⟩
  | x :: r, es, h => by
    (conv at h => lhs; whnf)
    split at h
    · rename_i e es
      simp only [Bool.and_eq_true] at h
      obtain ⟨h1, h2⟩ := chkXs_len h.2
      exact ⟨congrArg (· + 1) h1, by rw [List.all_cons, h.1.1, h2]; rfl⟩
    · cases h
theorem cmp2_map {f g : Ev} {c : AV → AV → Option Bool} {ρ : Loc} {σ : Sto} : ((f ρ σ).bind fun (u, σ) => (g ρ σ).bind fun (v, σ) => (c u v).map fun r => (AV.bool r, σ)) = (cmp2 f g c ρ σ).map fun (b, σ) => (AV.bool b, σ) := by
  unfold cmp2
  cases f ρ σ with
  | none => rfl
  | some p =>
    obtain ⟨u, σ1⟩ := p
    show ((g ρ σ1).bind fun p => (c u p.1).map fun r => (AV.bool r, p.2)) = ((g ρ σ1).bind fun p => (c u p.1).map fun r => (r, p.2)).map _
    cases g ρ σ1 with
    | none => rfl
    | some p =>
      show ((c u p.1).map fun r => (AV.bool r, p.2)) = ((c u p.1).map fun r => (r, p.2)).map _
      cases c u p.1 <;> rfl

section
variable {prog : Program} {w : World} {cls : Nat → Addr} {h₀ : Heap} {tb : Nat → Option AV} {fa : Nat → Addr} {K : Frag} {mg mb : Str → Option Value} {env : Env} {A : Around} {ad ad' : Ad} {hf hf' hE : Fz} {σ σ' : Sto} {ρ : Loc} {s : Shared} {m : Str → Option Value} {oa : Nat → Addr} {E : Value → Shared → Prop} {cf : Callf}

noncomputable def XT (prog : Program) (w : World) (cls : Nat → Addr) (h₀ : Heap) (env : Env) (A : Around) (f : Ev) (e : Expr) : Prop := XOk prog w cls h₀ env A f e ∧ TOk prog w cls h₀ env A f e
theorem XT.v {f g : Ev} {e : Expr} (h : XOk prog w cls h₀ env A f e) (hv : valT e = true) (q : ∀ ρ σ, g ρ σ = f ρ σ) : XT prog w cls h₀ env A g e := by
  have : g = f := funext fun ρ => funext fun σ => q ρ σ
  subst this
  exact ⟨h, t_val hv h⟩
theorem XT.c {g : Loc → Sto → Option (Bool × Sto)} {k : Ev} {l r : Expr} {op : CmpOp} {p : Pos} (h : COk prog w cls h₀ env A g l op r) (hm : behindInMarks op r = false) (q : ∀ ρ σ, k ρ σ = (g ρ σ).map fun (b, σ) => (AV.bool b, σ)) : XT prog w cls h₀ env A k (.Compare l [op] [r] p) := by
  have : k = fun ρ σ => (g ρ σ).map fun (b, σ) => (AV.bool b, σ) := funext fun ρ => funext fun σ => q ρ σ
  subst this
  exact ⟨h.x hm, t_cmp h hm⟩
theorem XT.of {f g : Ev} {e : Expr} (h : XOk prog w cls h₀ env A f e) (t : TOk prog w cls h₀ env A f e) (q : ∀ ρ σ, g ρ σ = f ρ σ) : XT prog w cls h₀ env A g e := by
  have : g = f := funext fun ρ => funext fun σ => q ρ σ
  subst this
  exact ⟨h, t⟩
theorem YOk.cg {f g : Evs} {e : Expr} (h : YOk prog w cls h₀ env A f e) (q : ∀ ρ σ, g ρ σ = f ρ σ) : YOk prog w cls h₀ env A g e := by
  have : g = f := funext fun ρ => funext fun σ => q ρ σ
  subst this; exact h
theorem notSet_isNone {k : Nat} {p : Pos} {op : CmpOp} : behindInMarks op (.Constant .none k p) = false := rfl

/-- what a test row says, with its test -/
theorem tests_one {f : Ev} {c : Expr} (h : TOk prog w cls h₀ env A f c) : BOk prog w cls h₀ env A (toB f) (testsOf [c] env) := fun hE ρ σ σ' b ad hf m oa s Q E e S F hq => by
  unfold testsOf
  rw [List.forIn_cons]
  refine wpAny_bind ?_
  rw [if_pos rfl]
  refine wpAny_bind (h _ _ _ _ _ _ _ _ _ _ _ _ e S F fun h1 tk1 ad1 hf1 S1 E1 => wpAny_pure ?_)
  exact wpAny_pure (hq h1 tk1 ad1 hf1 S1 E1)
theorem tests_nil : BOk prog w cls h₀ env A (fun _ σ => some (true, σ)) (testsOf [] env) := fun hE ρ σ σ' b ad hf m oa s Q E e S F hq => by
  cases e
  exact wpAny_pure (hq s.heap s.toks ad hf S (Ext.refl _ _ _))
end
end Mine
/-! part NCi -/
namespace Mine
open PySem PySem.W PyProof.Rows
theorem aL {a b : Bool} (h : (a && b) = true) : a = true := by cases a <;> first | rfl | cases h
theorem aR {a b : Bool} (h : (a && b) = true) : b = true := by cases a <;> first | exact h | cases h
theorem bq {α : Type} [BEq α] [LawfulBEq α] {a b : α} (h : (a == b) = true) : a = b := eq_of_beq h
theorem dq {p : Prop} [Decidable p] (h : decide p = true) : p := of_decide_eq_true h
theorem nq {a : Bool} (h : (!a) = true) : a = false := by cases a <;> first | rfl | cases h
theorem i_nm {P : Expr → Prop} {e : Expr} {k : Nat} (h : nmIs e k = true) (c : ∀ p, P (.Name (Wn k) p)) : P e := by
  obtain ⟨p, rfl⟩ := nmIs_is h; exact c p
theorem i_one {α : Type} {P : List α → Prop} {l : List α} {f : α → Bool} (h : oneB l f = true) (c : ∀ x, f x = true → P [x]) : P l := by
  obtain ⟨x, rfl, h⟩ := oneB_is h; exact c x h
theorem i_two {α : Type} {P : List α → Prop} {l : List α} {f : α → α → Bool} (h : twoB l f = true) (c : ∀ x y, f x y = true → P [x, y]) : P l := by
  obtain ⟨x, y, rfl, h⟩ := twoB_is h; exact c x y h
theorem i_cons {α : Type} {P : List α → Prop} {l : List α} {f : α → List α → Bool} (h : consB l f = true) (c : ∀ x y, f x y = true → P (x :: y)) : P l := by
  obtain ⟨x, y, rfl, h⟩ := consB_is h; exact c x y h
theorem i_some {α : Type} {P : Option α → Prop} {l : Option α} {f : α → Bool} (h : onB l f = true) (c : ∀ x, f x = true → P (some x)) : P l := by
  obtain ⟨x, rfl, h⟩ := onB_is h; exact c x h
theorem i_bin {P : Expr → Prop} {e : Expr} {F : Expr × Operator × Expr → Bool} {o : Operator} (h : onB (vBin e) F = true) (ho : ∀ l op r, F (l, op, r) = true → op = o) (c : ∀ l r p, F (l, o, r) = true → P (.BinOp l o r p)) : P e := by
  replace h := onB_is h; obtain ⟨⟨l, op, r⟩, q, h⟩ := h
  obtain ⟨p, rfl⟩ := vBin_is q
  obtain rfl := ho _ _ _ h; exact c l r p h
theorem i_un {P : Expr → Prop} {e : Expr} {F : UnaryOp × Expr → Bool} {o : UnaryOp} (h : onB (vUn e) F = true) (ho : ∀ op r, F (op, r) = true → op = o) (c : ∀ r p, F (o, r) = true → P (.UnaryOp o r p)) : P e := by
  replace h := onB_is h; obtain ⟨⟨op, r⟩, q, h⟩ := h
  obtain ⟨p, rfl⟩ := vUn_is q
  obtain rfl := ho _ _ h; exact c r p h
theorem i_cmp {P : Expr → Prop} {e : Expr} {F : Expr × CmpOp × Expr → Bool} {o : CmpOp} (h : onB (vCmp e) F = true) (ho : ∀ l op r, F (l, op, r) = true → op = o) (c : ∀ l r p, F (l, o, r) = true → P (.Compare l [o] [r] p)) : P e := by
  replace h := onB_is h; obtain ⟨⟨l, op, r⟩, q, h⟩ := h
  obtain ⟨p, rfl⟩ := vCmp_is q
  obtain rfl := ho _ _ _ h; exact c l r p h
theorem i_bool {P : Expr → Prop} {e : Expr} {F : BoolOp × List Expr → Bool} {o : BoolOp} (h : onB (vBool e) F = true) (ho : ∀ op r, F (op, r) = true → op = o) (c : ∀ r p, F (o, r) = true → P (.BoolOp o r p)) : P e := by
  replace h := onB_is h; obtain ⟨⟨op, r⟩, q, h⟩ := h
  obtain ⟨p, rfl⟩ := vBool_is q
  obtain rfl := ho _ _ h; exact c r p h
theorem i_sub {P : Expr → Prop} {e : Expr} {F : Expr × Expr → Bool} (h : onB (vSub e) F = true) (c : ∀ o i p, F (o, i) = true → P (.Subscript o i p)) : P e := by
  replace h := onB_is h; obtain ⟨⟨o, i⟩, q, h⟩ := h
  obtain ⟨p, rfl⟩ := vSub_is q; exact c o i p h
theorem i_slice {P : Expr → Prop} {e : Expr} {F : Option Expr × Option Expr → Bool} (h : onB (vSlice e) F = true) (c : ∀ o i p, F (o, i) = true → P (.Slice o i none p)) : P e := by
  replace h := onB_is h; obtain ⟨⟨o, i⟩, q, h⟩ := h
  obtain ⟨p, rfl⟩ := vSlice_is q; exact c o i p h
theorem i_if {P : Expr → Prop} {e : Expr} {F : Expr × Expr × Expr → Bool} (h : onB (vIf e) F = true) (c : ∀ t a b p, F (t, a, b) = true → P (.IfExp t a b p)) : P e := by
  replace h := onB_is h; obtain ⟨⟨o, i⟩, q, h⟩ := h
  obtain ⟨p, rfl⟩ := vIf_is q; exact c _ _ _ p h
theorem i_attr {P : Expr → Prop} {e : Expr} {F : Expr × Str → Bool} {n : Str} (h : onB (vAttr e) F = true) (hn : ∀ o m, F (o, m) = true → m = n) (c : ∀ o p, F (o, n) = true → P (.Attribute o n p)) : P e := by
  replace h := onB_is h; obtain ⟨⟨o, i⟩, q, h⟩ := h
  obtain ⟨p, rfl⟩ := vAttr_is q
  obtain rfl := hn _ _ h; exact c _ p h
theorem i_tup {P : Expr → Prop} {e : Expr} {F : List Expr → Bool} (h : onB (vTuple e) F = true) (c : ∀ es k p, F es = true → P (.Tuple es k p)) : P e := by
  replace h := onB_is h; obtain ⟨es, q, h⟩ := h
  obtain ⟨k, p, rfl⟩ := vTuple_is q; exact c _ _ _ h
theorem i_list {P : Expr → Prop} {e : Expr} {F : List Expr → Bool} (h : onB (vList e) F = true) (c : ∀ es p, F es = true → P (.List es p)) : P e := by
  replace h := onB_is h; obtain ⟨es, q, h⟩ := h
  obtain ⟨p, rfl⟩ := vList_is q; exact c _ _ h
theorem i_dict {P : Expr → Prop} {e : Expr} {F : List (Option Expr) × List Expr → Bool} (h : onB (vDict e) F = true) (c : ∀ ks vs p, F (ks, vs) = true → P (.Dict ks vs p)) : P e := by
  replace h := onB_is h; obtain ⟨⟨ks, vs⟩, q, h⟩ := h
  obtain ⟨p, rfl⟩ := vDict_is q; exact c _ _ _ h
theorem i_const {P : Expr → Prop} {e : Expr} {F : Const → Bool} {k : Const} (h : onB (vConst e) F = true) (hk : ∀ c, F c = true → c = k) (c : ∀ l p, P (.Constant k l p)) : P e := by
  replace h := onB_is h; obtain ⟨c', q, h⟩ := h
  obtain rfl := hk _ h
  obtain ⟨k, p, rfl⟩ := vConst_is q; exact c _ _
theorem i_none {P : Expr → Prop} {e : Expr} (h : isNone e = true) (c : ∀ k p, P (.Constant .none k p)) : P e := by
  obtain ⟨k, p, rfl⟩ := isNone_is h; exact c k p
theorem i_call {P : Expr → Prop} {e : Expr} {F : Str × List Expr → Bool} {n0 : Str} (h : onB (vCall e) F = true) (hn : ∀ n l, F (n, l) = true → n = n0) (c : ∀ l p p', F (n0, l) = true → P (.Call (.Name n0 p) l [] p')) : P e := by
  replace h := onB_is h; obtain ⟨⟨n, l⟩, q, h⟩ := h
  obtain ⟨p, p', rfl⟩ := vCall_is q
  obtain rfl := hn _ _ h; exact c _ _ _ h
theorem i_call1 {P : Expr → Prop} {e : Expr} {F : Str × List Expr → Bool} {G : Str → Expr → Bool} {n0 : Str} (h : onB (vCall e) F = true) (hF : ∀ n l, F (n, l) = oneB l (G n)) (hn : ∀ n x, G n x = true → n = n0) (c : ∀ x p p', G n0 x = true → P (.Call (.Name n0 p) [x] [] p')) : P e := by
  replace h := onB_is h; obtain ⟨⟨n, l⟩, q, h⟩ := h
  obtain ⟨p, p', rfl⟩ := vCall_is q
  rw [hF] at h
  obtain ⟨x, rfl, h⟩ := oneB_is h
  obtain rfl := hn _ _ h; exact c _ _ _ h
theorem i_call2 {P : Expr → Prop} {e : Expr} {F : Str × List Expr → Bool} {G : Str → Expr → Expr → Bool} {n0 : Str} (h : onB (vCall e) F = true) (hF : ∀ n l, F (n, l) = twoB l (G n)) (hn : ∀ n x y, G n x y = true → n = n0) (c : ∀ x y p p', G n0 x y = true → P (.Call (.Name n0 p) [x, y] [] p')) : P e := by
  replace h := onB_is h; obtain ⟨⟨n, l⟩, q, h⟩ := h
  obtain ⟨p, p', rfl⟩ := vCall_is q
  rw [hF] at h
  obtain ⟨x, y, rfl, h⟩ := twoB_is h
  obtain rfl := hn _ _ _ h; exact c _ _ _ _ h
theorem lt_V {sc : Scope} {k : Nat} (h : isV sc k = true) : k < wmax := dq (aL h)
theorem kd_V {env : Env} {k : Nat} (h : isV env.scope k = true) : env.kindOf (Wn k) = some .local ∨ env.kindOf (Wn k) = some .cell ∨ env.kindOf (Wn k) = some .free := (isV_kind rfl h).2
theorem ne_nil {α : Type} {l : List α} (h : (!l.isEmpty) = true) : l ≠ [] := fun z => by rw [z] at h; cases h
theorem lt_S {e : Expr} {k : Nat} (h : onB (vConst e) (isCS k) = true) : k < wmax := by obtain ⟨c, q, h⟩ := onB_is h; exact (isCS_is h).1
theorem i_list0 {P : Expr → Prop} {e : Expr} (h : onB (vList e) List.isEmpty = true) (c : ∀ p, P (.List [] p)) : P e := by
  replace h := onB_is h; obtain ⟨es, q, h⟩ := h
  obtain ⟨p, rfl⟩ := vList_is q
  obtain rfl := List.isEmpty_iff.mp h; exact c _
theorem i_nn {α : Type} {P : Option α → Prop} {o : Option α} (h : o.isNone = true) (c : P none) : P o := by
  cases o with
  | none => exact c
  | some _ => cases h
theorem i_callN {P : Expr → Prop} {e : Expr} {F : Str × List Expr → Bool} {n0 : Str} (h : onB (vCall e) F = true) (hn : ∀ n l, F (n, l) = true → n = n0) (hne : ∀ n l, F (n, l) = true → (!l.isEmpty) = true) (c : ∀ x r p p', F (n0, x :: r) = true → P (.Call (.Name n0 p) (x :: r) [] p')) : P e := by
  replace h := onB_is h; obtain ⟨⟨n, l⟩, q, h⟩ := h
  obtain ⟨p, p', rfl⟩ := vCall_is q
  obtain rfl := hn _ _ h
  cases l with
  | nil => cases hne _ _ h
  | cons x r => exact c _ _ _ _ h
theorem i_name {P : Expr → Prop} {e : Expr} {F : Str → Bool} {m0 : Str} (h : onB (vName e) F = true) (hm : ∀ m, F m = true → m = m0) (c : ∀ p, F m0 = true → P (.Name m0 p)) : P e := by
  replace h := onB_is h; obtain ⟨m, q, h⟩ := h
  obtain ⟨p, rfl⟩ := vName_is q
  obtain rfl := hm _ h; exact c _ h
theorem i_meth2 {P : Expr → Prop} {e : Expr} {F : Expr × Str × List Expr → Bool} {G : Expr → Str → Expr → Expr → Bool} {n0 : Str} (h : onB (vMeth e) F = true) (hF : ∀ o n l, F (o, n, l) = twoB l (G o n)) (hn : ∀ o n x y, G o n x y = true → n = n0) (c : ∀ o x y ap p, (ap.endLine == p.line) = true → G o n0 x y = true → P (.Call (.Attribute o n0 ap) [x, y] [] p)) : P e := by
  replace h := onB_is h; obtain ⟨⟨o, n, l⟩, q, h⟩ := h
  obtain ⟨ap, p, rfl, hl⟩ := vMeth_is q
  rw [hF] at h
  obtain ⟨x, y, rfl, h⟩ := twoB_is h
  obtain rfl := hn _ _ _ _ h; exact c _ _ _ _ _ hl h
theorem i_meth1 {P : Expr → Prop} {e : Expr} {F : Expr × Str × List Expr → Bool} {G : Expr → Str → Expr → Bool} {n0 : Str} (h : onB (vMeth e) F = true) (hF : ∀ o n l, F (o, n, l) = oneB l (G o n)) (hn : ∀ o n x, G o n x = true → n = n0) (c : ∀ o x ap p, (ap.endLine == p.line) = true → G o n0 x = true → P (.Call (.Attribute o n0 ap) [x] [] p)) : P e := by
  replace h := onB_is h; obtain ⟨⟨o, n, l⟩, q, h⟩ := h
  obtain ⟨ap, p, rfl, hl⟩ := vMeth_is q
  rw [hF] at h
  obtain ⟨x, rfl, h⟩ := oneB_is h
  obtain rfl := hn _ _ _ h; exact c _ _ _ _ hl h
theorem i_comp {P : Expr → Prop} {e : Expr} {F : Expr × Str × Expr × List Expr × Scope → Bool} {x0 : Str} (h : onB (vComp e) F = true) (hx : ∀ el x it ifs sc, F (el, x, it, ifs, sc) = true → x = x0) (c : ∀ el it ifs sc px p, F (el, x0, it, ifs, sc) = true → P (.ListComp el [⟨.Name x0 px, it, ifs, 0⟩] sc p)) : P e := by
  replace h := onB_is h; obtain ⟨⟨el, x, it, ifs, sc⟩, q, h⟩ := h
  obtain ⟨px, p, rfl⟩ := vComp_is q
  obtain rfl := hx _ _ _ _ _ h; exact c _ _ _ _ _ _ h
end Mine
/-! part ND -/
namespace Mine
open PySem PySem.W PyProof.Rows

theorem isN_map {o : Option (AV × Sto)} : (o.map fun (v, σ) => (AV.bool (match v with | .none => true | _ => false), σ)) = (o.map fun (v, σ) => (isNoneV v ^^ false, σ)).map fun (b, σ) => (AV.bool b, σ) := by
  cases o with
  | none => rfl
  | some p => obtain ⟨v, σ⟩ := p; cases v <;> rfl
theorem isNN_map {o : Option (AV × Sto)} : (o.map fun (v, σ) => (AV.bool (match v with | .none => false | _ => true), σ)) = (o.map fun (v, σ) => (isNoneV v ^^ true, σ)).map fun (b, σ) => (AV.bool b, σ) := by
  cases o with
  | none => rfl
  | some p => obtain ⟨v, σ⟩ := p; cases v <;> rfl
theorem xor_map {α : Type} {neg : Bool} {o : Option Bool} {σ : α} : (o.map fun r => (AV.bool (r ^^ neg), σ)) = (o.map (· ^^ neg)).map fun r => (AV.bool r, σ) := by cases o <;> rfl
theorem in_map {f g : Ev} {ρ : Loc} {σ : Sto} : ((f ρ σ).bind fun (u, σ) => (g ρ σ).bind fun (v, σ) => (isinV u v).map fun r => (AV.bool r, σ)) = (cmp2 f g (fun u v => (isinV u v).map (· ^^ false)) ρ σ).map fun (b, σ) => (AV.bool b, σ) := by
  rw [← cmp2_map]
  cases f ρ σ with
  | none => rfl
  | some p =>
    obtain ⟨u, σ1⟩ := p
    dsimp only [Option.bind]
    cases g ρ σ1 with
    | none => rfl
    | some q =>
      obtain ⟨v, σ2⟩ := q
      dsimp only
      cases isinV u v with
      | none => rfl
      | some r => cases r <;> rfl
theorem notin_map {f g : Ev} {ρ : Loc} {σ : Sto} : ((f ρ σ).bind fun (u, σ) => (g ρ σ).bind fun (v, σ) => (isinV u v).map fun r => (AV.bool (!r), σ)) = (cmp2 f g (fun u v => (isinV u v).map (· ^^ true)) ρ σ).map fun (b, σ) => (AV.bool b, σ) := by
  rw [← cmp2_map]
  cases f ρ σ with
  | none => rfl
  | some p =>
    obtain ⟨u, σ1⟩ := p
    dsimp only [Option.bind]
    cases g ρ σ1 with
    | none => rfl
    | some q =>
      obtain ⟨v, σ2⟩ := q
      dsimp only
      cases isinV u v with
      | none => rfl
      | some r => cases r <;> rfl
theorem notinO_map {f : Ev} {k : Nat} {ρ : Loc} {σ : Sto} : ((f ρ σ).bind fun (u, σ) => match look k ρ with
    | some (.own l) => (isinL u l).map fun r => (AV.bool (!r), σ)
    | _ => Option.none) = (((f ρ σ).bind fun (u, σ) => match look k ρ with
      | some (.own l) => (isinL u l).map fun r => (!r, σ)
      | _ => Option.none)).map fun (b, σ) => (AV.bool b, σ) := by
  cases f ρ σ with
  | none => rfl
  | some p =>
    dsimp only [Option.bind]
    split
    · cases isinL p.1 _ <;> rfl
    · rfl
theorem neE_map {k : Nat} {ρ : Loc} {σ : Sto} : (match look k ρ with
    | some (.own l) => some (AV.bool (!l.isEmpty), σ)
    | _ => Option.none) = (match look k ρ with
      | some (.own l) => some (!l.isEmpty, σ)
      | _ => Option.none).map fun (b, σ) => (AV.bool b, σ) := by
  split <;> rfl
theorem chkD_len {sc : Scope} : ∀ {xs : List X} {ks : List (Option Expr)} {vs : List Expr}, chkD sc xs ks vs = true → ks.all (·.isSome) = true ∧ ks.length = vs.length
  | [], ks, vs, h => by
    replace h : and _ _ = true := h
    simp only [Bool.and_eq_true, List.isEmpty_iff] at h
    obtain ⟨rfl, rfl⟩ := h
    exact ⟨rfl, rfl⟩
  | [_], ks, vs, h => by (conv at h => lhs; whnf); cases h
  | k :: v :: r, ks, vs, h => by
    replace h := consB_is h; obtain ⟨a, ks, rfl, h⟩ := h
    replace h := consB_is h; obtain ⟨b, vs, rfl, h⟩ := h
    replace h := onB_is h; obtain ⟨a, rfl, h⟩ := h
    simp only [Bool.and_eq_true] at h
    obtain ⟨h1, h2⟩ := chkD_len h.2
    exact ⟨by rw [List.all_cons, h1]; rfl, congrArg (· + 1) h2⟩

section
variable {prog : Program} {w : World} {cls : Nat → Addr} {h₀ : Heap} {tb : Nat → Option AV} {fa : Nat → Addr} {K : Frag} {mg mb : Str → Option Value} {A : Around} {cf : Callf}

noncomputable abbrev SoXs (prog : Program) (w : World) (cls : Nat → Addr) (h₀ : Heap) (env : Env) (A : Around) (cf : Callf) (tb : Nat → Option AV) (xs : List X) (es : List Expr) : Prop :=
  XsOk prog w cls h₀ env A (fun ρ σ => evXs cf tb ρ xs σ) es ∧ ∀ isAnd, BoOk prog w cls h₀ env A (fun ρ σ => evB cf tb ρ isAnd xs σ) (opBo isAnd) es ∧ TrOk prog w cls h₀ env A (fun ρ σ => evB cf tb ρ isAnd xs σ) (opBo isAnd) es
noncomputable abbrev SoO (prog : Program) (w : World) (cls : Nat → Addr) (h₀ : Heap) (env : Env) (A : Around) (fl : Loc → Sto → Option (Option AV × Sto)) (l : Option Expr) : Prop :=
  (l = none ∧ fl = fun _ σ => some (none, σ)) ∨ ∃ e g, l = some e ∧ XOk prog w cls h₀ env A g e ∧ fl = fun ρ σ => (g ρ σ).map fun (v, σ) => (some v, σ)

theorem k_len : (("len" : Str) == ("__debug__" : Str)) = false := by decide +kernel
theorem in_len : (("len" : Str), Value.builtin "len") ∈ biList := .head _
theorem k_all : (("all" : Str) == ("__debug__" : Str)) = false := by decide +kernel
theorem in_all : (("all" : Str), Value.builtin "all") ∈ biList := .tail _ (.tail _ (.head _))
theorem k_sum : (("sum" : Str) == ("__debug__" : Str)) = false := by decide +kernel
theorem in_sum : (("sum" : Str), Value.builtin "sum") ∈ biList := .tail _ (.tail _ (.tail _ (.head _)))
theorem k_int : (("int" : Str) == ("__debug__" : Str)) = false := by decide +kernel
theorem in_int : (("int" : Str), Value.type "int") ∈ biList := .tail _ (.tail _ (.tail _ (.tail _ (.head _))))
theorem k_tuple : (("tuple" : Str) == ("__debug__" : Str)) = false := by decide +kernel
theorem in_tuple : (("tuple" : Str), Value.type "tuple") ∈ biList := .tail _ (.tail _ (.tail _ (.tail _ (.tail _ (.tail _ (.head _))))))
theorem prim_tup' {ad : Ad} {hf : Fz} {σ : Sto} {s : Shared} {a b : AV} {u : Value} {Q : Value → Shared → Prop} {E : Value → Shared → Prop} (S : Sit prog w cls h₀ ad hf σ s.heap) (e : tupOfV a = some b) (ha : VRel prog w ad hf a u)
    (h : ∀ v' h' tk hf', Sit prog w cls h₀ ad hf' σ h' → Ext ad hf s.heap ad hf' h' → VRel prog w ad hf' b v' → Q v' { s with heap := h', toks := tk }) :
    wpAny (model prog w) A (call (.type "tuple") [u]) Q E s := by
  unfold tupOfV at e
  split at e
  · split at e
    · rename_i hfit
      cases e
      exact prim_tup S hfit ha h
    · cases e
  · cases e
theorem len_le {xs : List X} {n : Nat} (h : n ≤ 1000) (q : xs.length = n) : ∀ (ρ : Loc) (σ : Sto) (l : List AV) (σ' : Sto), evXs cf tb ρ xs σ = some (l, σ') → l.length ≤ 1000 := fun _ _ _ _ e => by rw [evXs_len e, q]; exact h
mutual
theorem soX (W : Wd prog w cls h₀ tb fa K mg mb) (R : AOk prog w cls h₀ fa cf A) : ∀ (x : X) {env : Env} {e : Expr}, chkX env.scope x e = true → XT prog w cls h₀ env A (fun ρ σ => evX cf tb ρ x σ) e
  | .none, env, e, h => i_none h fun _ _ => XT.v x_none rfl fun _ _ => rfl
  | .bool b, env, e, h => i_const h (fun _ h => isCB_is h) fun _ _ => XT.v x_bool rfl fun _ _ => rfl
  | .int i, env, e, h => i_const h (fun _ h => isCI_is h) fun _ _ => XT.v x_int rfl fun _ _ => rfl
  | .str k, env, e, h => i_const h (fun _ h => (isCS_is h).2) fun _ _ => XT.v (x_str (lt_S h)) rfl fun _ _ => rfl
  | .var k, env, e, h => i_nm (aL h) fun _ => XT.v (x_var (lt_V (aR h)) (kd_V (aR h))) rfl fun _ _ => rfl
  | .tab k, env, e, h => i_nm (aL (aL h)) fun _ => XT.v (x_tab W (dq (aR (aL h))) (isG_kind rfl (aR h))) rfl fun _ _ => rfl
  | .attr x k, env, e, h => i_attr h (fun o m h => bq (aR (aL (aL h)))) fun o p h => XT.v (x_attr W (dq (aL (aL (aL h)))) (nq (aR (aL h))) (soX W R x (aR h)).1) rfl fun _ _ => rfl
  | .tup xs, env, e, h => i_tup h fun es k p h => XT.v (x_tup (len_le (dq (aL h)) (chkXs_len (aR h)).1) (soXs W R xs (aR h)).1) rfl fun _ _ => rfl
  | .mlst xs, env, e, h => i_list h fun es p h => XT.v (x_mlst (len_le (dq (aL h)) (chkXs_len (aR h)).1) (soXs W R xs (aR h)).1) rfl fun _ _ => rfl
  | .dict kvs, env, e, h => i_dict h fun ks vs p h => XT.v (x_dict W (chkD_len (aR h)).1 (chkD_len (aR h)).2 (ne_nil (aR (aL h))) (dq (aL (aL h))) (soD W R kvs (aR h))) rfl fun _ _ => rfl
  | .bin o a b, env, e, h => i_bin h (fun l op r h => bq (aL (aL h))) fun l r p h => XT.v (x_bin (soX W R a (aR (aL h))).1 (soX W R b (aR h)).1) rfl fun _ _ => rfl
  | .neg i, env, e, h => i_un h (fun op x h => bq (aL h)) fun x p h => i_const (P := fun x => XT prog w cls h₀ env A _ (.UnaryOp .USub x p)) (aR h) (fun _ h => isCI_is h) fun _ _ => XT.v x_neg rfl fun _ _ => rfl
  | .cmp o a b, env, e, h => i_cmp h (fun l op r h => bq (aL (aL (aL h)))) fun l r p h => XT.c (c_cmp R.u (soX W R a (aR (aL h))).1 (soX W R b (aR h)).1) (notSet_marks (aR (aL (aL h))) _) fun _ _ => cmp2_map (f := fun ρ σ => evX cf tb ρ a σ) (g := fun ρ σ => evX cf tb ρ b σ)
  | .isN a, env, e, h => i_cmp h (fun l op r h => bq (aL (aL h))) fun l r p h => i_none (P := fun r => XT prog w cls h₀ env A _ (.Compare l [.Is] [r] p)) (aR (aL h)) fun k p' => XT.c (c_is (neg := false) (soX W R a (aR h)).1) notSet_isNone fun _ _ => isN_map
  | .isNN a, env, e, h => i_cmp h (fun l op r h => bq (aL (aL h))) fun l r p h => i_none (P := fun r => XT prog w cls h₀ env A _ (.Compare l [.IsNot] [r] p)) (aR (aL h)) fun k p' => XT.c (c_is (neg := true) (soX W R a (aR h)).1) notSet_isNone fun _ _ => isNN_map
  | .isin a c, env, e, h => i_cmp h (fun l op r h => bq (aL (aL (aL h)))) fun l r p h => XT.c (c_in (neg := false) (soX W R a (aR (aL h))).1 (soX W R c (aR h)).1) (notSet_marks (aR (aL (aL h))) _) fun _ _ => in_map (f := fun ρ σ => evX cf tb ρ a σ) (g := fun ρ σ => evX cf tb ρ c σ)
  | .notin a c, env, e, h => i_cmp h (fun l op r h => bq (aL (aL (aL h)))) fun l r p h => XT.c (c_in (neg := true) (soX W R a (aR (aL h))).1 (soX W R c (aR h)).1) (notSet_marks (aR (aL (aL h))) _) fun _ _ => notin_map (f := fun ρ σ => evX cf tb ρ a σ) (g := fun ρ σ => evX cf tb ρ c σ)
  | .notinO a k, env, e, h => i_cmp h (fun l op r h => bq (aL (aL (aL h)))) fun l r p h => i_nm (P := fun r => XT prog w cls h₀ env A _ (.Compare l [.NotIn] [r] p)) (aR (aL (aL h))) fun p' => XT.c (c_notinO (lt_V (aR (aL h))) (kd_V (aR (aL h))) (soX W R a (aR h)).1) rfl fun _ _ => notinO_map (f := fun ρ σ => evX cf tb ρ a σ)
  | .neE k, env, e, h => i_cmp h (fun l op r h => bq (aL (aL (aL h)))) fun l r p h => i_nm (P := fun l => XT prog w cls h₀ env A _ (.Compare l [.NotEq] [r] p)) (aR (aL (aL h))) fun p' => i_list0 (P := fun r => XT prog w cls h₀ env A _ (.Compare (.Name (Wn k) p') [.NotEq] [r] p)) (aR h) fun p'' => XT.c (c_neE R.u (lt_V (aR (aL h))) (kd_V (aR (aL h)))) rfl fun _ _ => neE_map
  | .not a, env, e, h => i_un h (fun op x h => bq (aL h)) fun x p h => XT.of (x_not (soX W R a (aR h)).1) (t_not (soX W R a (aR h)).2) fun _ _ => rfl
  | .bop isAnd xs, env, e, h => i_bool h (fun op x h => bq (aL h)) fun es p h => XT.of (x_bop ((soXs W R xs (aR h)).2 isAnd).1) (t_bop ((soXs W R xs (aR h)).2 isAnd).2) fun _ _ => rfl
  | .ite c a b, env, e, h => i_if h fun t x y p h => XT.of (x_ite (soX W R c (aL (aL h))).2 (soX W R a (aR (aL h))).1 (soX W R b (aR h)).1) (t_ite (soX W R c (aL (aL h))).2 (soX W R a (aR (aL h))).2 (soX W R b (aR h)).2) fun _ _ => rfl
  | .sub a i, env, e, h => i_sub h fun o sl p h => XT.v (x_sub (aL (aL h)) (soX W R a (aR (aL h))).1 (soX W R i (aR h)).1) rfl fun _ _ => rfl
  | .osub k i, env, e, h => i_sub h fun o sl p h => i_nm (P := fun o => XT prog w cls h₀ env A _ (.Subscript o sl p)) (aL (aL (aL h))) fun p' => XT.v (x_osub (lt_V (aR (aL (aL h)))) (kd_V (aR (aL (aL h)))) (aR (aL h)) (soX W R i (aR h)).1) rfl fun _ _ => rfl
  | .tl a, env, e, h => i_sub h fun o sl p h => i_slice (P := fun sl => XT prog w cls h₀ env A _ (.Subscript o sl p)) h fun l u p' h => i_nn (P := fun u => XT prog w cls h₀ env A _ (.Subscript o (.Slice l u none p') p)) (aL h) (i_some (P := fun l => XT prog w cls h₀ env A _ (.Subscript o (.Slice l none none p') p)) (aR h) fun l h => i_const (P := fun l => XT prog w cls h₀ env A _ (.Subscript o (.Slice (some l) none none p') p)) (aL h) (fun _ h => isCI_is h) fun _ _ => XT.v (x_tl (soX W R a (aR h)).1) rfl fun _ _ => rfl)
  | .call f xs, env, e, h => i_callN h (fun n l h => bq (aR (aL (aL (aL h))))) (fun n l h => aR (aL h)) fun e' rest p p' h => XT.v (x_fn W R.c (dq (aL (aL (aL (aL (aL h)))))) (aR (aL (aL (aL (aL h))))) (isG_kind rfl (aR (aL (aL h)))) (chkXs_len (aR h)).2 (soXs W R xs (aR h)).1) rfl fun _ _ => rfl
  | .new c xs, env, e, h => i_callN h (fun n l h => bq (aR (aL (aL (aL h))))) (fun n l h => aR (aL h)) fun e' rest p p' h => XT.v (x_new W (R.n c) (dq (aL (aL (aL (aL (aL h)))))) (aR (aL (aL (aL (aL h))))) (isG_kind rfl (aR (aL (aL h)))) (chkXs_len (aR h)).2 (soXs W R xs (aR h)).1) rfl fun _ _ => rfl
  | .len a, env, e, h => i_call1 h (fun _ _ => rfl) (fun n x h => bq (aL (aL (aL h)))) fun x p p' h => XT.v (bi_call1 W (isG_kind rfl (aR (aL (aL h)))) k_len in_len (.inl ⟨_, rfl⟩) (aR (aL h)) (soX W R a (aR h)).1 fun σ a b u ad hf s Q E e S V h => prim_len S e V (pure_prim S h)) rfl fun _ _ => rfl
  | .isi a T, env, e, h => i_call2 h (fun _ _ => rfl) (fun n x y h => bq (aL (aL (aL (aL (aL h)))))) fun x t p p' h => i_name (P := fun t => XT prog w cls h₀ env A _ (.Call (.Name ("isinstance" : Str) p) [x, t] [] p')) (aR (aL (aL h))) (fun m h => bq (aL h)) fun p'' h' => XT.v (x_isi W (dq (aR (aL (aL (aL h))))) (isG_kind rfl (aR (aL (aL (aL (aL h)))))) (isG_kind rfl (aR h')) (aR (aL h)) (soX W R a (aR h)).1) rfl fun _ _ => rfl
  | .all a, env, e, h => i_call1 h (fun _ _ => rfl) (fun n x h => bq (aL (aL (aL h)))) fun x p p' h => XT.v (bi_call1 W (isG_kind rfl (aR (aL (aL h)))) k_all in_all (.inl ⟨_, rfl⟩) (aR (aL h)) (soX W R a (aR h)).1 fun σ a b u ad hf s Q E e S V h => prim_all S R.h e V (pure_prim S h)) rfl fun _ _ => rfl
  | .toInt a, env, e, h => i_call1 h (fun _ _ => rfl) (fun n x h => bq (aL (aL (aL h)))) fun x p p' h => XT.v (bi_call1 W (isG_kind rfl (aR (aL (aL h)))) k_int in_int (.inr ⟨_, rfl⟩) (aR (aL h)) (soX W R a (aR h)).1 fun σ a b u ad hf s Q E e S V h => prim_int e V (pure_prim S h)) rfl fun _ _ => rfl
  | .tupOf a, env, e, h => i_call1 h (fun _ _ => rfl) (fun n x h => bq (aL (aL (aL h)))) fun x p p' h => XT.v (bi_call1 W (isG_kind rfl (aR (aL (aL h)))) k_tuple in_tuple (.inr ⟨_, rfl⟩) (aR (aL h)) (soX W R a (aR h)).1 fun σ a b u ad hf s Q E e S V h => prim_tup' S e V h) rfl fun _ _ => rfl
  | .sumOf a, env, e, h => i_call1 h (fun _ _ => rfl) (fun n x h => bq (aL (aL (aL h)))) fun x p p' h => XT.v (bi_call1 W (isG_kind rfl (aR (aL (aL h)))) k_sum in_sum (.inl ⟨_, rfl⟩) (aR (aL h)) (soX W R a (aR h)).1 fun σ a b u ad hf s Q E e S V h => prim_sum S R.h e V (pure_prim S h)) rfl fun _ _ => rfl
  | .lenset a, env, e, h => i_call1 h (fun _ _ => rfl) (fun n x h => bq (aL (aL h))) fun y p p' h => i_call1 (P := fun y => XT prog w cls h₀ env A _ (.Call (.Name ("len" : Str) p) [y] [] p')) (aR h) (fun _ _ => rfl) (fun n x h => bq (aL (aL (aL h)))) fun x p'' p3 h' => XT.v (x_lenset W R.h (isG_kind rfl (aR (aL h))) (isG_kind rfl (aR (aL (aL h')))) (aR (aL h')) (soX W R a (aR h')).1) rfl fun _ _ => rfl
  | .dget d k x, env, e, h => i_meth2 h (fun _ _ _ => rfl) (fun o n x y h => bq (aL (aL (aL (aL (aL (aL h))))))) fun o a b ap p hl h => XT.v (x_dget (nq (aR (aL (aL (aL (aL (aL h))))))) hl (aR (aL (aL (aL (aL h))))) (aR (aL (aL (aL h)))) (soX W R d (aR (aL (aL h)))).1 (soX W R k (aR (aL h))).1 (soX W R x (aR h)).1) rfl fun _ _ => rfl
  | .fresh y, env, e, h => by
    (conv at h => lhs; whnf)
    have hy := soY W R y h
    refine XT.of (x_fresh hy) (fun hE ρ σ σ' b ad hf m oa s Q E q S F hq => ?_) fun _ _ => rfl
    obtain ⟨⟨v, σ1⟩, e1, q⟩ := Option.bind_eq_some_iff.mp q
    obtain ⟨⟨l, σ2⟩, e2, e1⟩ := Option.map_eq_some_iff.mp e1
    cases e1
    cases q
theorem soXs (W : Wd prog w cls h₀ tb fa K mg mb) (R : AOk prog w cls h₀ fa cf A) : ∀ (xs : List X) {env : Env} {es : List Expr}, chkXs env.scope xs es = true → SoXs prog w cls h₀ env A cf tb xs es
  | [], env, es, h => by
    have : es = [] := by
      have := (chkXs_len h).1
      cases es with
      | nil => rfl
      | cons _ _ => cases this
    subst this
    refine ⟨?_, fun isAnd => ⟨?_, ?_⟩⟩
    · have : (fun ρ σ => evXs cf tb ρ [] σ) = fun _ σ => some ([], σ) := rfl
      rw [this]; exact xs_nil
    · have : (fun ρ σ => evB cf tb ρ isAnd [] σ) = fun _ _ => none := rfl
      rw [this]; exact bo_nil
    · have : (fun ρ σ => evB cf tb ρ isAnd [] σ) = fun _ _ => none := rfl
      rw [this]; exact tr_nil
  | x :: r, env, es, h => by
    have hlen := chkXs_len h
    replace h := consB_is h; obtain ⟨e, es, rfl, h⟩ := h
    · simp only [Bool.and_eq_true] at h
      obtain ⟨⟨hs, hx⟩, hr⟩ := h
      have h1 := soX W R x hx
      have h2 := soXs W R r hr
      have hl : r.isEmpty = es.isEmpty := by
        have := (chkXs_len hr).1
        cases r <;> cases es <;> first | rfl | cases this
      refine ⟨?_, fun isAnd => ⟨?_, ?_⟩⟩
      · have : (fun ρ σ => evXs cf tb ρ (x :: r) σ) = fun ρ σ => (evX cf tb ρ x σ).bind fun (v, σ) => (evXs cf tb ρ r σ).map fun (l, σ) => (v :: l, σ) := rfl
        rw [this]; exact xs_cons hs h1.1 h2.1
      · have : (fun ρ σ => evB cf tb ρ isAnd (x :: r) σ) = fun ρ σ => (evX cf tb ρ x σ).bind fun (v, σ) => (asB v).bind fun b => if r.isEmpty || b != isAnd then some (.bool b, σ) else evB cf tb ρ isAnd r σ := rfl
        rw [this]; exact bo_cons hl h1.1 (h2.2 isAnd).1
      · have : (fun ρ σ => evB cf tb ρ isAnd (x :: r) σ) = fun ρ σ => (evX cf tb ρ x σ).bind fun (v, σ) => (asB v).bind fun b => if r.isEmpty || b != isAnd then some (.bool b, σ) else evB cf tb ρ isAnd r σ := rfl
        rw [this]; exact tr_cons hl h1.2 (h2.2 isAnd).2
theorem soD (W : Wd prog w cls h₀ tb fa K mg mb) (R : AOk prog w cls h₀ fa cf A) : ∀ (xs : List X) {env : Env} {ks : List (Option Expr)} {vs : List Expr}, chkD env.scope xs ks vs = true → PsOk prog w cls h₀ env A (fun ρ σ => evXs cf tb ρ xs σ) ks vs
  | [], env, ks, vs, h => by
    replace h : and _ _ = true := h
    simp only [Bool.and_eq_true, List.isEmpty_iff] at h
    obtain ⟨rfl, rfl⟩ := h
    have : (fun ρ σ => evXs cf tb ρ [] σ) = fun _ σ => some ([], σ) := rfl
    rw [this]; exact ps_nil
  | [_], env, ks, vs, h => by (conv at h => lhs; whnf); cases h
  | k :: v :: r, env, ks, vs, h => by
    replace h := consB_is h; obtain ⟨a, ks, rfl, h⟩ := h
    replace h := consB_is h; obtain ⟨b, vs, rfl, h⟩ := h
    replace h := onB_is h; obtain ⟨a, rfl, h⟩ := h
    · simp only [Bool.and_eq_true] at h
      have : (fun ρ σ => evXs cf tb ρ (k :: v :: r) σ) = (fun ρ σ => (evX cf tb ρ k σ).bind fun (a, σ) => (((evX cf tb ρ v σ).bind fun (b, σ) => (evXs cf tb ρ r σ).map fun (l, σ) => (b :: l, σ))).map fun (l, σ) => (a :: l, σ)) := by
        funext ρ σ; rw [evXs]; congr 1
      rw [this]
      exact ps_cons (soX W R k h.1.1).1 (soX W R v h.1.2).1 (soD W R r h.2)
theorem soO (W : Wd prog w cls h₀ tb fa K mg mb) (R : AOk prog w cls h₀ fa cf A) : ∀ (x : Option X) {env : Env} {e : Option Expr}, chkO env.scope x e = true → SoO prog w cls h₀ env A (fun ρ σ => evO cf tb ρ x σ) e
  | none, env, e, h => by
    (conv at h => lhs; whnf)
    exact .inl ⟨Option.isNone_iff_eq_none.mp h, rfl⟩
  | some x, env, e, h => by
    replace h := onB_is h; obtain ⟨e, rfl, h⟩ := h
    exact .inr ⟨e, _, rfl, (soX W R x h).1, rfl⟩
theorem soC (W : Wd prog w cls h₀ tb fa K mg mb) (R : AOk prog w cls h₀ fa cf A) : ∀ (x : Option X) {env : Env} {es : List Expr}, chkC env.scope x es = true → BOk prog w cls h₀ env A (fun ρ σ => evC cf tb ρ x σ) (testsOf es env)
  | none, env, es, h => by
    (conv at h => lhs; whnf)
    have : es = [] := List.isEmpty_iff.mp h
    subst this
    have : (fun ρ σ => evC cf tb ρ none σ) = fun _ σ => some (true, σ) := rfl
    rw [this]; exact tests_nil
  | some x, env, es, h => by
    replace h := oneB_is h; obtain ⟨e, rfl, h⟩ := h
    have : (fun ρ σ => evC cf tb ρ (some x) σ) = toB (fun ρ σ => evX cf tb ρ x σ) := rfl
    rw [this]; exact tests_one (soX W R x h).2
theorem soY (W : Wd prog w cls h₀ tb fa K mg mb) (R : AOk prog w cls h₀ fa cf A) : ∀ (y : Y) {env : Env} {e : Expr}, chkY env.scope y e = true → YOk prog w cls h₀ env A (fun ρ σ => evY cf tb ρ y σ) e
  | .disp xs, env, e, h => i_list h fun es p h => (y_disp (len_le (dq (aL h)) (chkXs_len (aR h)).1) (soXs W R xs (aR h)).1).cg fun _ _ => rfl
  | .comp t src cond elt, env, e, h => i_comp h (fun el x it ifs sc h => bq (aL (aL (aL (aL (aL h)))))) fun el it ifs scope px p h => (y_comp R.h (aR (aL (aL (aL h)))) (aR (aL (aL (aL (aL h))))) (soX W R src (aR (aL (aL h)))).1 (fun cl C => soC W R cond (env := compEnvC scope cl C env) (aR (aL h))) (fun cl C => (soX W R elt (env := compEnvC scope cl C env) (aR h)).1)).cg fun _ _ => rfl
  | .cat a b, env, e, h => i_bin h (fun l op r h => bq (aL (aL h))) fun l r p h => (y_cat (soX W R a (aR (aL h))).1 (soX W R b (aR h)).1).cg fun _ _ => rfl
  | .rep a b, env, e, h => i_bin h (fun l op r h => bq (aL (aL h))) fun l r p h => (y_rep (soX W R a (aR (aL h))).1 (soX W R b (aR h)).1).cg fun _ _ => rfl
  | .slice a lo hi, env, e, h => i_sub h fun o sl p h => i_slice (P := fun sl => YOk prog w cls h₀ env A _ (.Subscript o sl p)) h fun l u p' h => (y_slice (soX W R a (aL (aL h))).1 (soO W R lo (aR (aL h))) (soO W R hi (aR h))).cg fun _ _ => rfl
  | .zip a b, env, e, h => i_call1 h (fun _ _ => rfl) (fun n x h => bq (aL (aL (aL h)))) fun y p p' h => i_call2 (P := fun y => YOk prog w cls h₀ env A _ (.Call (.Name ("list" : Str) p) [y] [] p')) (aR h) (fun _ _ => rfl) (fun n x y h => bq (aL (aL (aL (aL (aL h)))))) fun u v p2 p3 h' => (y_zip W R.h (isG_kind rfl (aR (aL (aL h)))) (isG_kind rfl (aR (aL (aL (aL (aL h')))))) (aR (aL (aL (aL h')))) (aR (aL (aL h'))) (soX W R a (aR (aL h'))).1 (soX W R b (aR h')).1).cg fun _ _ => rfl
  | .ite c a b, env, e, h => i_if h fun t x y p h => (y_ite (soX W R c (aL (aL h))).2 (soY W R a (aR (aL h))) (soY W R b (aR h))).cg fun _ _ => rfl
  | .listOf a, env, e, h => i_call1 h (fun _ _ => rfl) (fun n x h => bq (aL (aL (aL h)))) fun x p p' h => (y_listOf W (isG_kind rfl (aR (aL (aL h)))) (aR (aL h)) (soX W R a (aR h)).1).cg fun _ _ => rfl
end
end
end Mine
/-! part NE -/
namespace Mine
open PySem PySem.W PyProof.Rows

noncomputable abbrev Evo := Loc → Sto → Option Out
section
variable (prog : Program) (w : World) (cls : Nat → Addr) (h₀ : Heap) (env : Env) (A : Around)
noncomputable def SOk (f : Evo) (st : Stmt) : Prop :=
  ∀ (adE : Ad) (hfE hE : Fz) (ρ : Loc) (σ : Sto) (o : Out) (s : Shared) (Q : Flow → Shared → Prop) (E : Value → Shared → Prop), FreshE hE env → f ρ σ = some o → In prog w cls h₀ adE hfE hE env ρ σ s.heap →
    OutOk prog w cls h₀ adE hfE hE env Q s o → wpAny (model prog w) A (exec st env) Q E s
end

section
variable {prog : Program} {w : World} {cls : Nat → Addr} {h₀ : Heap} {tb : Nat → Option AV} {fa : Nat → Addr} {K : Frag} {mg mb : Str → Option Value} {env : Env} {A : Around} {ad ad' adE ad1 : Ad} {hf hf' hfE hE hf1 : Fz} {σ σ' : Sto} {ρ : Loc} {s : Shared} {m : Str → Option Value} {oa : Nat → Addr} {E : Value → Shared → Prop} {cf : Callf}

/-! rows of statements -/
theorem b_nil : BodyOk prog w cls h₀ env A (fun ρ σ => some (.next ρ σ)) [] := fun adE hfE hE ρ σ o s Q E fr e X hQ => by
  cases e
  exact wpAny_execs_nil (hQ s.heap s.toks X)
theorem b_cons {f g : Evo} {st : Stmt} {rest : List Stmt} (h1 : SOk prog w cls h₀ env A f st) (h2 : BodyOk prog w cls h₀ env A g rest) :
    BodyOk prog w cls h₀ env A (fun ρ σ => (f ρ σ).bind fun o => match o with
      | .next ρ σ => g ρ σ
      | .ret a σ => some (.ret a σ)) (st :: rest) := fun adE hfE hE ρ σ o s Q E fr e X hQ => by
  obtain ⟨o1, e1, e2⟩ := Option.bind_eq_some_iff.mp e
  refine wpAny_execs_cons (h1 _ _ _ _ _ _ _ _ _ fr e1 X ?_)
  cases o1 with
  | next ρ1 σ1 =>
    intro h tk X1
    refine h2 _ _ _ _ _ o _ _ _ fr e2 X1 ?_
    cases o with
    | next ρ2 σ2 => exact fun h' tk' X' => hQ h' tk' X'
    | ret a σ2 => exact fun h' tk' v ρ' ad' hf' m' oa' S' F' X' V' => hQ h' tk' v ρ' ad' hf' m' oa' S' F' X' V'
  | ret a σ1 =>
    cases e2
    exact fun h' tk' v ρ' ad' hf' m' oa' S' F' X' V' => hQ h' tk' v ρ' ad' hf' m' oa' S' F' X' V'
theorem b_frz {g : Evo} {k : Nat} {rest : List Stmt} (hk : k < wmax) (h2 : BodyOk prog w cls h₀ env A g rest) :
    BodyOk prog w cls h₀ env A (fun ρ σ => (match look k ρ with
      | some (.own l) => some (Out.next (put k (.val (.lst l)) ρ) σ)
      | _ => Option.none).bind fun o => match o with
      | .next ρ σ => g ρ σ
      | .ret a σ => some (.ret a σ)) rest := fun adE hfE hE ρ σ o s Q E fr e X hQ => by
  obtain ⟨o1, e1, e2⟩ := Option.bind_eq_some_iff.mp e
  split at e1
  · rename_i l el
    cases e1
    obtain ⟨ad, hf, m, oa, S, F, X⟩ := X
    obtain ⟨hf', S', F', X'⟩ := S.frz F X hk el
    exact h2 _ _ _ _ _ o _ _ _ fr e2 ⟨ad, hf', m, oa, S', F', X'⟩ hQ
  · cases e1

/-! plain names -/
theorem s_asg {f : Ev} {v : Expr} {k : Nat} {p p' : Pos} (hk : okK env k) (hsw : swapsWith v (some (.Name (Wn k) p)) p'.line env = pure false) (hx : XOk prog w cls h₀ env A f v) :
    SOk prog w cls h₀ env A (fun ρ σ => (f ρ σ).map fun (v, σ) => .next (put k (.val v) ρ) σ) (.Assign [.Name (Wn k) p] v p') := fun adE hfE hE ρ σ o s Q E fr e X hQ => by
  obtain ⟨⟨a, σ1⟩, e1, e⟩ := Option.map_eq_some_iff.mp e
  cases e
  obtain ⟨ad, hf, m, oa, S, F, X⟩ := X
  refine wpAny_Assign_Name (hx _ _ _ _ _ _ _ _ _ _ _ _ e1 S F fun v1 h1 tk1 ad1 hf1 S1 E1 V1 => ?_) hsw
  refine store_var (s := { s with heap := h1, toks := tk1 }) S1 (F.ext E1) (X.trans E1) fr hk.1 hk.2 (u := .val a) (a := 0) V1 (fun _ z => by cases z) fun h' tk m' S' F' X' => ?_
  exact hQ h' tk ⟨ad1, hf1, m', _, S', F', X'⟩
theorem ownPlace {k : Nat} {l : List AV} (F : Fra prog w hE env ρ ad hf s.heap m oa) (hk : k < wmax) (e : look k ρ = some (.own l)) : ∃ vs n, s.heap.get? (oa k) = some (lstO vs n) ∧ VRels prog w ad hf l vs := by
  obtain ⟨v, V, L⟩ := F.vars k _ e hk
  obtain ⟨_, vs, n, ho, R⟩ := L
  exact ⟨vs, n, ho, R⟩
theorem slot_new {k : Nat} {a : Addr} (F : Fra prog w hE env ρ ad hf s.heap m oa) (X : ExtF adE hfE hE ad hf s.heap) (n : s.heap.get? a = none) (p1 : hf' a = none) (p2 : Off ad' a) : Slot' hE env ρ ad' hf' oa k a := by
  refine ⟨⟨p1, p2, ?_, fun x c hc z => ?_, ?_⟩, fun j l e hj _ z => ?_⟩
  · obtain ⟨oL, es, ep, hL, _⟩ := F.ns
    intro z; rw [z, hL] at n; cases n
  · obtain ⟨_, _, _, v, o', ho, _⟩ := F.pc x c hc
    rw [z, ho] at n; cases n
  · cases q : hE a with
    | none => rfl
    | some o => obtain ⟨o', e'⟩ := X.ke a o q; rw [n] at e'; cases e'
  · obtain ⟨vs, n', ho, _⟩ := ownPlace F hj e
    rw [z, n] at ho; cases ho
theorem s_own {f : Evs} {v : Expr} {k : Nat} {p p' : Pos} (hk : okK env k) (hsw : swapsWith v (some (.Name (Wn k) p)) p'.line env = pure false) (hy : YOk prog w cls h₀ env A f v) :
    SOk prog w cls h₀ env A (fun ρ σ => (f ρ σ).map fun (l, σ) => .next (put k (.own l) ρ) σ) (.Assign [.Name (Wn k) p] v p') := fun adE hfE hE ρ σ o s Q E fr e X hQ => by
  obtain ⟨⟨l, σ1⟩, e1, e⟩ := Option.map_eq_some_iff.mp e
  cases e
  obtain ⟨ad, hf, m, oa, S, F, X⟩ := X
  refine wpAny_Assign_Name (hy _ _ _ _ _ _ _ _ _ _ _ _ e1 S F fun a vs n h1 tk1 ad1 hf1 S1 E1 n0 p1 p2 o1 V1 => ?_) hsw
  refine store_var (s := { s with heap := h1, toks := tk1 }) S1 (F.ext E1) (X.trans E1) fr hk.1 hk.2 (u := .own l) (a := a) ⟨rfl, vs, n, o1, V1⟩ (fun _ _ => slot_new F X n0 p1 p2) fun h' tk m' S' F' X' => ?_
  exact hQ h' tk ⟨ad1, hf1, m', _, S', F', X'⟩

/-! a comprehension straight into its name -/
theorem hold {C : Addr} {oC : Obj} {h' : Heap} (F : Fra prog w hE env ρ ad hf s.heap m oa) (X : ExtF adE hfE hE ad hf s.heap) (E' : Ext ad hf s.heap ad' hf' h') (cn : s.heap.get? C = none) (p1 : hf' C = none) (p2 : Off ad' C) (ho : h'.get? C = some oC) :
    Fra prog w (gun (one C oC) hE) env ρ ad' hf' h' m oa ∧ ExtF adE hfE (gun (one C oC) hE) ad' hf' h' ∧ PvG adE hfE hE env (one C oC) := by
  have F' := F.ext E'
  have X' := X.trans E'
  have O := slot_new (k := 0) F X cn p1 p2
  refine ⟨⟨F'.kind, F'.glob, F'.blt, F'.ns, F'.vars, F'.cl, F'.pl, F'.pc, F'.cc, fun k l e hk => ?_, F'.oo⟩, ⟨X'.hm, fun a o q f z => ?_, ?_, fun a o q f => ?_, fun a o q => ?_⟩, fun a o q => ?_⟩
  · obtain ⟨a1, b, d, f, z⟩ := F'.po k l e hk
    refine ⟨a1, b, d, f, ?_⟩
    have : oa k ≠ C := fun z => by
      obtain ⟨vs, n', ho', _⟩ := ownPlace F hk e
      rw [z, cn] at ho'; cases ho'
    rw [gun_none (one_ne this)]; exact z
  · rcases gun_cases q with q | ⟨_, q⟩
    · obtain ⟨rfl, rfl⟩ := one_some q; exact p1
    · exact X'.hn a o q f z
  · obtain ⟨l, e, hl⟩ := X'.ap
    refine ⟨l, e, fun p hp => ?_⟩
    have := p2 p (e ▸ List.mem_append_right _ hp)
    exact ⟨by rw [gun_none (one_ne (Ne.symm this.1))]; exact (hl p hp).1, by rw [gun_none (one_ne (Ne.symm this.2))]; exact (hl p hp).2⟩
  · rcases gun_cases q with q | ⟨_, q⟩
    · obtain ⟨rfl, rfl⟩ := one_some q; exact ho
    · exact X'.kp a o q f
  · rcases gun_cases q with q | ⟨_, q⟩
    · obtain ⟨rfl, rfl⟩ := one_some q; exact ⟨_, ho⟩
    · exact X'.ke a o q
  · obtain ⟨rfl, rfl⟩ := one_some q
    refine ⟨fun p hp => ?_, ?_, O.p.2.2.2.2, Ne.symm O.p.2.2.1, fun x c e => Ne.symm (O.p.2.2.2.1 x c e)⟩
    · obtain ⟨l, e, _⟩ := X'.ap
      exact p2 p (e ▸ List.mem_append_left _ hp)
    · cases q' : hfE a with
      | none => rfl
      | some o' => rw [X'.hm a o' q'] at p1; cases p1
theorem store_used {k : Nat} {u : LV} {v : Value} {a C : Addr} {m' : Str → Option Value} {h' : Heap} {tk : Nat} {p : Pos} {Q : Flow → Shared → Prop} (F : Fra prog w hE env ρ ad hf s.heap m oa) (X : ExtF adE hfE hE ad hf s.heap) (fr : FreshE hE env) (S' : Sit prog w cls h₀ ad' hf' σ' h') (E' : Ext ad hf s.heap ad' hf' h')
    (cn : s.heap.get? C = none) (p1 : hf' C = none) (p2 : Off ad' C) (ns : h'.Ns C m') (hk : okK env k) (L : LIs prog w ad' hf' h' a u v) (O : ∀ l, u = .own l → s.heap.get? a = none ∧ hf' a = none ∧ Off ad' a ∧ a ≠ C)
    (fin : ∀ h2 tk2, In prog w cls h₀ adE hfE hE env (put k u ρ) σ' h2 → Q .next { s with heap := h2, toks := tk2 }) :
    wpAny (model prog w) A (assign (.Name (Wn k) p) env v) (fun _ s'' => ∃ m, s''.heap.Ns C m ∧ ∀ h3, Heap.SameBut C s''.heap h3 → Q .next { s'' with heap := h3 }) E { s with heap := h', toks := tk } := by
  obtain ⟨oC, es, ep, hC, hC2⟩ := id ns
  obtain ⟨F1, X1, pv⟩ := hold F X E' cn p1 p2 hC
  refine wpAny_assign_Name (store_var (s := { s with heap := h', toks := tk }) S' F1 X1 (fr.gun pv) hk.1 hk.2 (u := u) (a := a) L (fun l e => ?_) fun h2 tk2 m2 S2 F2 X2 => ?_)
  · obtain ⟨o1, o2, o3, o4⟩ := O l e
    have := slot_new (k := k) F X o1 o2 o3
    exact ⟨⟨this.p.1, this.p.2.1, this.p.2.2.1, this.p.2.2.2.1, by rw [gun_none (one_ne o4)]; exact this.p.2.2.2.2⟩, this.o⟩
  · refine ⟨m', ⟨oC, es, ep, X2.kp C oC (gun_some one_self) (pv C oC one_self).a, hC2⟩, fun h3 hs => ?_⟩
    have Y : In prog w cls h₀ adE hfE (gun (one C oC) hE) env (put k u ρ) σ' h2 := ⟨ad', hf', m2, _, S2, F2, X2⟩
    exact fin h3 tk2 (Y.drop1 pv fun b x ne q => (hs.2 b ne).trans q)

theorem exec_used {elt iter : Expr} {ifs : List Expr} {t k : Nat} {px pos p p' : Pos} {scope : Scope} {f fx : Ev} {fc : Loc → Sto → Option (Bool × Sto)} {l : List AV} {Q : Flow → Shared → Prop} (hh : A.handled = none)
    (hsw : swapsWith (.ListComp elt [⟨.Name (Wn t) px, iter, ifs, 0⟩] scope pos) (some (.Name (Wn k) p)) p'.line env = pure true)
    (ho : compOk scope env.scope t = true) (hns : notSet iter = true) (hx : XOk prog w cls h₀ env A f iter)
    (cond : ∀ cl C, BOk prog w cls h₀ (compEnvC scope cl C env) A fc (testsOf ifs (compEnvC scope cl C env))) (hel : ∀ cl C, XOk prog w cls h₀ (compEnvC scope cl C env) A fx elt)
    (e : evComp f t fc fx ρ σ = some (l, σ')) (S : Sit prog w cls h₀ ad hf σ s.heap) (F : Fra prog w hE env ρ ad hf s.heap m oa)
    (fin : ∀ D C vs n h' tk ad' hf' m', CompFacts prog w cls h₀ ad hf s l σ' D C vs n h' ad' hf' m' → wpAny (model prog w) A (assign (.Name (Wn k) p) env (.ref D)) (fun _ s'' => ∃ m, s''.heap.Ns C m ∧ ∀ h3, Heap.SameBut C s''.heap h3 → Q .next { s'' with heap := h3 }) E { s with heap := h', toks := tk }) :
    wpAny (model prog w) A (exec (.Assign [.Name (Wn k) p] (.ListComp elt [⟨.Name (Wn t) px, iter, ifs, 0⟩] scope pos) p') env) Q E s := by
  rw [exec_Assign_Name_used _ _ _ _ hsw]
  refine wpAny_bind (wpAny_standAt (wpAny_bind ?_))
  rw [arm_evalThenUse_ListComp]
  refine wpAny_bind (wpAny_mono (comp_core (use := some (assign (.Name (Wn k) p) env)) (Q := fun _ s' => Q .next s') hh ho hns hx cond hel e S F fin) (fun _ s' hq => wpAny_pure (wpAny_pure hq)) fun _ _ e => e)
theorem s_ownC {elt iter : Expr} {ifs : List Expr} {t k : Nat} {px pos p p' : Pos} {scope : Scope} {f fx : Ev} {fc : Loc → Sto → Option (Bool × Sto)} (hh : A.handled = none) (hk : okK env k)
    (hsw : swapsWith (.ListComp elt [⟨.Name (Wn t) px, iter, ifs, 0⟩] scope pos) (some (.Name (Wn k) p)) p'.line env = pure true)
    (ho : compOk scope env.scope t = true) (hns : notSet iter = true) (hx : XOk prog w cls h₀ env A f iter)
    (cond : ∀ cl C, BOk prog w cls h₀ (compEnvC scope cl C env) A fc (testsOf ifs (compEnvC scope cl C env))) (hel : ∀ cl C, XOk prog w cls h₀ (compEnvC scope cl C env) A fx elt) :
    SOk prog w cls h₀ env A (fun ρ σ => (evComp f t fc fx ρ σ).map fun (l, σ) => .next (put k (.own l) ρ) σ) (.Assign [.Name (Wn k) p] (.ListComp elt [⟨.Name (Wn t) px, iter, ifs, 0⟩] scope pos) p') := fun adE hfE hE ρ σ o s Q E fr e X hQ => by
  obtain ⟨⟨l, σ1⟩, e1, e⟩ := Option.map_eq_some_iff.mp e
  cases e
  obtain ⟨ad, hf, m, oa, S, F, X⟩ := X
  refine exec_used hh hsw ho hns hx cond hel e1 S F fun D C vs n h' tk ad' hf' m' c => ?_
  exact store_used (u := .own l) (a := D) F X fr c.S c.X c.c c.pc.1 c.pc.2 c.ns hk ⟨rfl, vs, n, c.o, c.V⟩ (fun _ _ => ⟨c.d, c.pd.1, c.pd.2, c.dc⟩) fun h2 tk2 Y => hQ h2 tk2 Y
theorem s_asgC {elt iter : Expr} {ifs : List Expr} {t k : Nat} {px pos p p' : Pos} {scope : Scope} {f fx : Ev} {fc : Loc → Sto → Option (Bool × Sto)} (hh : A.handled = none) (hk : okK env k)
    (hsw : swapsWith (.ListComp elt [⟨.Name (Wn t) px, iter, ifs, 0⟩] scope pos) (some (.Name (Wn k) p)) p'.line env = pure true)
    (ho : compOk scope env.scope t = true) (hns : notSet iter = true) (hx : XOk prog w cls h₀ env A f iter)
    (cond : ∀ cl C, BOk prog w cls h₀ (compEnvC scope cl C env) A fc (testsOf ifs (compEnvC scope cl C env))) (hel : ∀ cl C, XOk prog w cls h₀ (compEnvC scope cl C env) A fx elt) :
    SOk prog w cls h₀ env A (fun ρ σ => ((evComp f t fc fx ρ σ).map fun (l, σ) => (AV.lst l, σ)).map fun (v, σ) => .next (put k (.val v) ρ) σ) (.Assign [.Name (Wn k) p] (.ListComp elt [⟨.Name (Wn t) px, iter, ifs, 0⟩] scope pos) p') := fun adE hfE hE ρ σ o s Q E fr e X hQ => by
  obtain ⟨⟨a, σ1⟩, e1, e⟩ := Option.map_eq_some_iff.mp e
  cases e
  obtain ⟨⟨l, σ2⟩, e1, e⟩ := Option.map_eq_some_iff.mp e1
  cases e
  obtain ⟨ad, hf, m, oa, S, F, X⟩ := X
  refine exec_used hh hsw ho hns hx cond hel e1 S F fun D C vs n h' tk ad' hf' m' c => ?_
  refine store_used (u := .val (.lst l)) (a := D) F X fr (c.S.freeze c.o c.pd.1 c.pd.2) (c.X.freezeNew c.pd.1 c.d) c.c ?_ c.pc.2 c.ns hk ?_ (fun _ z => by cases z) fun h2 tk2 Y => hQ h2 tk2 Y
  · rw [fput_ne (Ne.symm c.dc)]; exact c.pc.1
  · show VRel prog w _ _ (.lst l) _
    rw [VRel]
    exact ⟨D, vs, n, rfl, fput_same, c.V.mono (pre_refl _) (fput_mono c.pd.1)⟩
theorem swaps_name (v : Expr) (n : Str) (p : Pos) (line : Nat) (env : Env) : swapsWith v (some (.Name n p)) line env = pure false ∨ (swapsWith v (some (.Name n p)) line env = pure true ∧ isComp v = true) := by
  have go : ∀ b : Bool, (pure b : Sem Bool) = pure false ∨ ((pure b : Sem Bool) = pure true) := fun b => by cases b <;> simp
  cases v <;> first
    | exact .inl rfl
    | exact (go _).elim .inl fun z => .inr ⟨z, rfl⟩
theorem swaps_not {v : Expr} (h : isComp v = false) (t : Option Expr) (line : Nat) (env : Env) : swapsWith v t line env = pure false := by
  cases v <;> first
    | rfl
    | cases h
end
end Mine
/-! part NF -/
namespace Mine
open PySem PySem.W PyProof.Rows

theorem swapped_none {ts : List Expr} {x1} {p : Pos} {v : Expr} {env : Env} (h : isTup v = false ∨ someNotLocal env.scope ts = true) : swappedStores [.Tuple ts x1 p] v env = pure none := by
  have drop : ∀ (line : Nat) (ts : List Expr), ((ts.filterMap fun
      | .Name id pos => if env.kindOf id == some .local && pos.line == line then some id else none
      | _ => none : List Str)).length ≤ ts.length := fun line ts => List.length_filterMap_le ..
  have short : ∀ (line : Nat) (ts : List Expr), someNotLocal env.scope ts = true → ((ts.filterMap fun
      | .Name id pos => if env.kindOf id == some .local && pos.line == line then some id else none
      | _ => none : List Str)).length < ts.length := by
    intro line ts
    induction ts with
    | nil => intro h; cases h
    | cons e r ih =>
      intro h
      rw [List.filterMap_cons]
      unfold someNotLocal at h
      rw [Bool.or_eq_true] at h
      rcases h with h | h
      · have z : (match (generalizing := false) e with
          | .Name id pos => if env.kindOf id == some .local && pos.line == line then some id else none
          | _ => none : Option Str) = none := by
          cases e <;> first | rfl | skip
          rename_i n p
          have h : (kd env.scope n != some .local) = true := h
          have : (env.kindOf n == some .local) = false := by
            have : (kd env.scope n == some .local) = false := by simpa [bne] using h
            exact this
          show (if env.kindOf n == some .local && p.line == line then some n else none) = none
          rw [this]; rfl
        rw [z]
        exact Nat.lt_succ_of_le (drop line r)
      · have := ih h
        split
        · exact Nat.lt_succ_of_lt this
        · exact Nat.succ_lt_succ this
  rcases h with h | h
  · cases v <;> first
      | rfl
      | cases h
  · cases v <;> first | rfl | skip
    rename_i vs k q
    have := short ((ts.head?.map (·.pos.line)).getD 0) ts h
    unfold swappedStores
    dsimp only
    split
    · rfl
    · split
      · rfl
      · have ne : ((ts.filterMap fun
            | .Name id pos => if env.kindOf id == some .local && pos.line == (ts.head?.map (·.pos.line)).getD 0 then some id else none
            | _ => none : List Str).length != ts.length) = true := by
          rw [bne_iff_ne]; exact Nat.ne_of_lt this
        split
        · rfl
        · rename_i z
          exact absurd (by rw [Bool.or_eq_true]; exact .inl ne) z

section
variable {prog : Program} {w : World} {cls : Nat → Addr} {h₀ : Heap} {tb : Nat → Option AV} {fa : Nat → Addr} {K : Frag} {mg mb : Str → Option Value} {env : Env} {A : Around} {ad ad' adE ad1 : Ad} {hf hf' hfE hE hf1 : Fz} {σ σ' : Sto} {ρ : Loc} {s : Shared} {m : Str → Option Value} {oa : Nat → Addr} {E : Value → Shared → Prop} {cf : Callf}

theorem s_unp {f : Ev} {v : Expr} {ks : List Nat} {es : List Expr} {x1} {p p' : Pos} (hh : A.handled = none) (N : NamesAre ks es) (hk : ∀ k ∈ ks, okK env k) (hc : isComp v = false) (hw : isTup v = false ∨ someNotLocal env.scope es = true) (hx : XOk prog w cls h₀ env A f v) :
    SOk prog w cls h₀ env A (fun ρ σ => (f ρ σ).bind fun (v, σ) => match v with
      | .tup l => (putAll ks l ρ).map fun ρ => .next ρ σ
      | _ => Option.none) (.Assign [.Tuple es x1 p] v p') := fun adE hfE hE ρ σ o s Q E fr e X hQ => by
  obtain ⟨⟨a, σ1⟩, e1, e⟩ := Option.bind_eq_some_iff.mp e
  dsimp only at e
  split at e
  · rename_i l
    obtain ⟨ρ', e2, e⟩ := Option.map_eq_some_iff.mp e
    cases e
    obtain ⟨ad, hf, m, oa, S, F, X⟩ := X
    refine wpAny_Assign_stores (hx _ _ _ _ _ _ _ _ _ _ _ _ e1 S F fun v1 h1 tk1 ad1 hf1 S1 E1 V1 => ?_) (by show swapsWith v (some (.Tuple es x1 p)) p'.line env = pure false; exact swaps_not hc _ _ _) (swapped_none hw)
    show wpAny _ A (assign (.Tuple es x1 p) env v1) _ _ _
    exact unpack_all (s := { s with heap := h1, toks := tk1 }) N hh hk e2 V1 S1 (F.ext E1) (X.trans E1) fr fun h' tk m' oa' S' F' X' => hQ h' tk ⟨ad1, hf1, m', oa', S', F', X'⟩
  · cases e
theorem s_setA {f g : Ev} {v oe : Expr} {k : Nat} {p p' : Pos} (W : Wd prog w cls h₀ tb fa K mg mb) (hk : k < wmax) (hc : isComp v = false) (hx : XOk prog w cls h₀ env A f v) (ho : XOk prog w cls h₀ env A g oe) :
    SOk prog w cls h₀ env A (fun ρ σ => (f ρ σ).bind fun (v, σ) => (g ρ σ).bind fun (u, σ) => match u with
      | .obj i => match σ[i]? with
        | some (.inst c fs) => if decide ((putF k v fs).length ≤ 100) then some (.next ρ (σ.set i (.inst c (putF k v fs)))) else Option.none
        | _ => Option.none
      | _ => Option.none) (.Assign [.Attribute oe (Wn k) p] v p') := fun adE hfE hE ρ σ o s Q E fr e X hQ => by
  obtain ⟨⟨a, σ1⟩, e1, e⟩ := Option.bind_eq_some_iff.mp e
  obtain ⟨⟨u, σ2⟩, e2, e⟩ := Option.bind_eq_some_iff.mp e
  dsimp only at e
  split at e
  · split at e
    · rename_i i c fs hi
      split at e
      · rename_i hlen
        cases e
        obtain ⟨ad, hf, m, oa, S, F, X⟩ := X
        refine plainObj_wpAny_Assign_Attribute (hx _ _ _ _ _ _ _ _ _ _ _ _ e1 S F fun v1 h1 tk1 ad1 hf1 S1 E1 V1 => ?_) (swaps_not hc _ _ _)
        refine ho _ _ _ _ _ _ _ _ _ _ _ _ e2 S1 (F.ext E1) fun v2 h2 tk2 ad2 hf2 S2 E2 V2 => ?_
        obtain ⟨fI, ck⟩ := W.ck c
        exact set_field (s := { s with heap := h2, toks := tk2 }) S2 ((F.ext E1).ext E2) ((X.trans E1).trans E2) fr (W.X.keeps S2.keep0) ck hk hi (of_decide_eq_true hlen) V2 (V1.mono E2.pre E2.hm) fun h' tk S' F' X' => hQ h' tk ⟨ad2, hf2, m, oa, S', F', X'⟩
      · cases e
    · cases e
  · cases e
theorem s_setM {f g k : Ev} {v oe sl : Expr} {p p' : Pos} (hc : isComp v = false) (hx : XOk prog w cls h₀ env A f v) (ho : XOk prog w cls h₀ env A g oe) (hi : XOk prog w cls h₀ env A k sl) :
    SOk prog w cls h₀ env A (fun ρ σ => (f ρ σ).bind fun (v, σ) => (g ρ σ).bind fun (u, σ) => (k ρ σ).bind fun (j, σ) => match u, j with
      | .obj a, .int j => match σ[a]? with
        | some (.mlst l) => (setI l j v).map fun l => .next ρ (σ.set a (.mlst l))
        | _ => Option.none
      | _, _ => Option.none) (.Assign [.Subscript oe sl p] v p') := fun adE hfE hE ρ σ o s Q E fr e X hQ => by
  obtain ⟨⟨a, σ1⟩, e1, e⟩ := Option.bind_eq_some_iff.mp e
  obtain ⟨⟨u, σ2⟩, e2, e⟩ := Option.bind_eq_some_iff.mp e
  obtain ⟨⟨j, σ3⟩, e3, e⟩ := Option.bind_eq_some_iff.mp e
  dsimp only at e
  split at e
  · rename_i i j
    split at e
    · rename_i l hl
      obtain ⟨l', e4, e⟩ := Option.map_eq_some_iff.mp e
      cases e
      obtain ⟨ad, hf, m, oa, S, F, X⟩ := X
      refine wpAny_Assign_Subscript (hx _ _ _ _ _ _ _ _ _ _ _ _ e1 S F fun v1 h1 tk1 ad1 hf1 S1 E1 V1 => ?_) (swaps_not hc _ _ _)
      refine ho _ _ _ _ _ _ _ _ _ _ _ _ e2 S1 (F.ext E1) fun v2 h2 tk2 ad2 hf2 S2 E2 V2 => ?_
      refine hi _ _ _ _ _ _ _ _ _ _ _ _ e3 S2 ((F.ext E1).ext E2) fun v3 h3 tk3 ad3 hf3 S3 E3 V3 => ?_
      have F3 := ((F.ext E1).ext E2).ext E3
      have X3 := ((X.trans E1).trans E2).trans E3
      have V1' := (V1.mono E2.pre E2.hm).mono E3.pre E3.hm
      have V2' := V2.mono E3.pre E3.hm
      rw [VRel] at V2'
      rw [VRel] at V3
      obtain ⟨q, hq, rfl⟩ := V2'
      obtain ⟨t, rfl⟩ := V3
      obtain ⟨hqq, vs, n, ho', R⟩ := S3.ob _ q _ hq hl
      have hm := List.mem_of_getElem? hq
      have Lq := F3.pl.2 q hm
      refine own_set (s := { s with heap := h3, toks := tk3 }) ho' R e4 V1' fun h' us n' hs o' R' => ?_
      have hs2 : Heap.SameBut q.2 h3 h' := hqq ▸ hs
      have kb : KeepBut q.2 env.locals h3 h' := KeepBut.of_same hs2
      refine hQ h' tk3 ⟨ad3, hf3, m, oa, S3.setObj hq kb F3.pl ⟨hqq, us, n', o', R'⟩, F3.setObj hm rfl kb (F3.ns.sameBut hs2 Lq.2), X3.setObj hm rfl kb fr.l ⟨_, hqq ▸ o'⟩⟩
    · cases e
  · cases e
theorem own_put {k : Nat} {l l' : List AV} {vs : List Value} {n : Nat} {h' : Heap} (S : Sit prog w cls h₀ ad hf σ s.heap) (F : Fra prog w hE env ρ ad hf s.heap m oa) (X : ExtF adE hfE hE ad hf s.heap) (hk : k < wmax) (e : look k ρ = some (.own l)) (hs : Heap.SameBut (oa k) s.heap h') (ho : h'.get? (oa k) = some (lstO vs n)) (R : VRels prog w ad hf l' vs) :
    Sit prog w cls h₀ ad hf σ h' ∧ Fra prog w hE env (put k (.own l') ρ) ad hf h' m oa ∧ ExtF adE hfE hE ad hf h' := by
  have P := F.po k l e hk
  exact ⟨S.touch hs P.1 P.2.1, F.upd hk e hs ho R, X.touch hs P.2.2.2.2⟩
theorem s_setO {f g : Ev} {v sl : Expr} {k : Nat} {p p' q : Pos} (hk : k < wmax) (hv : env.kindOf (Wn k) = some .local ∨ env.kindOf (Wn k) = some .cell ∨ env.kindOf (Wn k) = some .free) (hc : isComp v = false) (hx : XOk prog w cls h₀ env A f v) (hi : XOk prog w cls h₀ env A g sl) :
    SOk prog w cls h₀ env A (fun ρ σ => (f ρ σ).bind fun (v, σ) => (g ρ σ).bind fun (j, σ) => match look k ρ, j with
      | some (.own l), .int j => (setI l j v).map fun l => .next (put k (.own l) ρ) σ
      | _, _ => Option.none) (.Assign [.Subscript (.Name (Wn k) q) sl p] v p') := fun adE hfE hE ρ σ o s Q E fr e X hQ => by
  obtain ⟨⟨a, σ1⟩, e1, e⟩ := Option.bind_eq_some_iff.mp e
  obtain ⟨⟨j, σ2⟩, e2, e⟩ := Option.bind_eq_some_iff.mp e
  dsimp only at e
  split at e
  · rename_i l j el
    obtain ⟨l', e4, e⟩ := Option.map_eq_some_iff.mp e
    cases e
    obtain ⟨ad, hf, m, oa, S, F, X⟩ := X
    refine wpAny_Assign_Subscript (hx _ _ _ _ _ _ _ _ _ _ _ _ e1 S F fun v1 h1 tk1 ad1 hf1 S1 E1 V1 => ?_) (swaps_not hc _ _ _)
    have F1 := F.ext E1
    refine name_var (s := { s with heap := h1, toks := tk1 }) F1 el hk hv fun v L => ?_
    obtain ⟨rfl, _⟩ := L
    refine hi _ _ _ _ _ _ _ _ _ _ _ _ e2 S1 F1 fun v2 h2 tk2 ad2 hf2 S2 E2 V2 => ?_
    have F2 := F1.ext E2
    have X2 := (X.trans E1).trans E2
    have V1' := V1.mono E2.pre E2.hm
    rw [VRel] at V2
    obtain ⟨t, rfl⟩ := V2
    obtain ⟨vs, n, ho', R⟩ := ownPlace (s := { s with heap := h2, toks := tk2 }) F2 hk el
    refine own_set (s := { s with heap := h2, toks := tk2 }) ho' R e4 V1' fun h' us n' hs o' R' => ?_
    obtain ⟨S3, F3, X3⟩ := own_put (s := { s with heap := h2, toks := tk2 }) S2 F2 X2 hk el hs o' R'
    exact hQ h' tk2 ⟨ad2, hf2, m, oa, S3, F3, X3⟩
  · cases e
theorem F_fun {env : Env} (h : env.scope.kind = .function) : interactive env = false := by unfold interactive; rw [h]; rfl
theorem s_app {f : Ev} {e : Expr} {k : Nat} {q ap p p' : Pos} (hk : k < wmax) (hv : env.kindOf (Wn k) = some .local ∨ env.kindOf (Wn k) = some .cell ∨ env.kindOf (Wn k) = some .free) (hl : (ap.endLine == p.line) = true) (hs : notStar e = true) (hx : XOk prog w cls h₀ env A f e) :
    SOk prog w cls h₀ env A (fun ρ σ => (f ρ σ).bind fun (v, σ) => match look k ρ with
      | some (.own l) => if fits l then some (.next (put k (.own (l ++ [v])) ρ) σ) else Option.none
      | _ => Option.none) (.Expr (.Call (.Attribute (.Name (Wn k) q) ("append" : Str) ap) [e] [] p) p') := fun adE hfE hE ρ σ o s Q E fr eq X hQ => by
  obtain ⟨⟨a, σ1⟩, e1, eq⟩ := Option.bind_eq_some_iff.mp eq
  dsimp only at eq
  split at eq
  · rename_i l el
    split at eq
    · rename_i hfit
      cases eq
      obtain ⟨ad, hf, m, oa, S, F, X⟩ := X
      refine wpAny_Expr ?_ (F_fun F.kind) rfl
      refine wpAny_Call_method1_late rfl hl (by rw [starEach_cons hs]; rfl) (name_var F el hk hv fun v L => ?_)
      obtain ⟨rfl, vs, n, ho, R⟩ := L
      refine ⟨"list", "list.append", PySem.F.plainAttrs_list, PySem.F.slot_list_append, PySem.F.type_list_append, (PySem.IsL.isList ho).typeIs, (fun _ e => by cases e; exact ⟨_, ho, rfl⟩), ?_⟩
      refine own_append (hx _ _ _ _ _ _ _ _ _ _ _ _ e1 S F fun v1 h1 tk1 ad1 hf1 S1 E1 V1 => ?_)
      have F1 := F.ext E1
      obtain ⟨vs', n', ho', R'⟩ := ownPlace (s := { s with heap := h1, toks := tk1 }) F1 hk el
      have hlen := fits_len hfit
      refine ⟨vs', n', ho', by rw [← R'.length]; exact hlen, fun h' n'' hs' o' => ?_⟩
      obtain ⟨S3, F3, X3⟩ := own_put (s := { s with heap := h1, toks := tk1 }) S1 F1 (X.trans E1) hk el hs' o' (R'.append (VRels.one V1))
      exact hQ h' tk1 ⟨ad1, hf1, m, oa, S3, F3, X3⟩
    · cases eq
  · cases eq
theorem s_ext {f : Ev} {e : Expr} {k : Nat} {q ap p p' : Pos} (hk : k < wmax) (hv : env.kindOf (Wn k) = some .local ∨ env.kindOf (Wn k) = some .cell ∨ env.kindOf (Wn k) = some .free) (hl : (ap.endLine == p.line) = true) (hs : notStar e = true) (hx : XOk prog w cls h₀ env A f e) :
    SOk prog w cls h₀ env A (fun ρ σ => (f ρ σ).bind fun (v, σ) => (items v).bind fun m => match look k ρ with
      | some (.own l) => if fits l && fits m then some (.next (put k (.own (l ++ m)) ρ) σ) else Option.none
      | _ => Option.none) (.Expr (.Call (.Attribute (.Name (Wn k) q) ("extend" : Str) ap) [e] [] p) p') := fun adE hfE hE ρ σ o s Q E fr eq X hQ => by
  obtain ⟨⟨a, σ1⟩, e1, eq⟩ := Option.bind_eq_some_iff.mp eq
  obtain ⟨mm, e2, eq⟩ := Option.bind_eq_some_iff.mp eq
  split at eq
  · rename_i l el
    split at eq
    · rename_i hfit
      rw [Bool.and_eq_true] at hfit
      cases eq
      obtain ⟨ad, hf, m, oa, S, F, X⟩ := X
      refine wpAny_Expr ?_ (F_fun F.kind) rfl
      refine wpAny_Call_method1_late rfl hl (by rw [starEach_cons hs]; rfl) (name_var F el hk hv fun v L => ?_)
      obtain ⟨rfl, vs, n, ho, R⟩ := L
      refine ⟨"list", "list.extend", PySem.F.plainAttrs_list, PySem.F.slot_list_extend, PySem.F.type_list_extend, (PySem.IsL.isList ho).typeIs, (fun _ e => by cases e; exact ⟨_, ho, rfl⟩), ?_⟩
      refine own_extendL (hx _ _ _ _ _ _ _ _ _ _ _ _ e1 S F fun v1 h1 tk1 ad1 hf1 S1 E1 V1 => ?_)
      have F1 := F.ext E1
      obtain ⟨vs', n', ho', R'⟩ := ownPlace (s := { s with heap := h1, toks := tk1 }) F1 hk el
      obtain ⟨b, lb, rfl, B⟩ := hfSeq e2 V1
      obtain ⟨us, nu, hu, Ru⟩ := B.now S1 (Ext.refl ad1 hf1 h1)
      have h1len := fits_len hfit.1
      have h2len := fits_len hfit.2
      refine ⟨vs', n', lb, us, nu, sN b, by cases b <;> simp [sN], rfl, ho', hu, by rw [← R'.length]; exact h1len, by rw [← Ru.length]; exact h2len, fun h' n'' hs' o' => ?_⟩
      obtain ⟨S3, F3, X3⟩ := own_put (s := { s with heap := h1, toks := tk1 }) S1 F1 (X.trans E1) hk el hs' o' (R'.append Ru)
      exact hQ h' tk1 ⟨ad1, hf1, m, oa, S3, F3, X3⟩
    · cases eq
  · cases eq
theorem s_pop {k t : Nat} {q ap p p' p'' : Pos} (hk : k < wmax) (hv : env.kindOf (Wn k) = some .local ∨ env.kindOf (Wn k) = some .cell ∨ env.kindOf (Wn k) = some .free) (ht : okK env t) (hl : (ap.endLine == p.line) = true) :
    SOk prog w cls h₀ env A (fun ρ σ => match look k ρ with
      | some (.own l) => if fits l then (l.getLast?).map fun v => .next (put t (.val v) (put k (.own l.dropLast) ρ)) σ else Option.none
      | _ => Option.none) (.Assign [.Name (Wn t) p''] (.Call (.Attribute (.Name (Wn k) q) ("pop" : Str) ap) [] [] p) p') := fun adE hfE hE ρ σ o s Q E fr eq X hQ => by
  dsimp only at eq
  split at eq
  · rename_i l el
    split at eq
    · rename_i hfit
      obtain ⟨v, e1, eq⟩ := Option.map_eq_some_iff.mp eq
      cases eq
      obtain ⟨ad, hf, m, oa, S, F, X⟩ := X
      refine wpAny_Assign_Name ?_ rfl
      refine wpAny_Call_method0_late rfl hl (name_var F el hk hv fun v' L => ?_)
      obtain ⟨rfl, vs, n, ho, R⟩ := L
      refine ⟨"list", "list.pop", PySem.F.plainAttrs_list, PySem.F.slot_list_pop, PySem.F.type_list_pop, (PySem.IsL.isList ho).typeIs, (fun _ e => by cases e; exact ⟨_, ho, rfl⟩), ?_⟩
      have hlen := fits_len hfit
      rw [List.getLast?_eq_getElem?] at e1
      obtain ⟨y, hy, Vy⟩ := R.get e1
      have hy' : vs.getLast? = some y := by rw [List.getLast?_eq_getElem?, ← R.length]; exact hy
      refine own_pop ho (by rw [← R.length]; exact hlen) hy' fun h' n' hs o' => ?_
      obtain ⟨S3, F3, X3⟩ := own_put S F X hk el hs o' (l' := l.dropLast) (by rw [List.dropLast_eq_take, List.dropLast_eq_take, ← R.length]; exact R.take _)
      refine store_var (s := { s with heap := h' }) S3 F3 X3 fr ht.1 ht.2 (u := .val v) (a := 0) Vy (fun _ z => by cases z) fun h'' tk m' S' F' X' => ?_
      exact hQ h'' tk ⟨ad, hf, m', _, S', F', X'⟩
    · cases eq
  · cases eq
theorem s_ite {f : Ev} {g k : Evo} {t : Expr} {a b : List Stmt} {p : Pos} (ht : TOk prog w cls h₀ env A f t) (ha : BodyOk prog w cls h₀ env A g a) (hb : BodyOk prog w cls h₀ env A k b) :
    SOk prog w cls h₀ env A (fun ρ σ => (f ρ σ).bind fun (v, σ) => (asB v).bind fun t => if t then g ρ σ else k ρ σ) (.If t a b p) := fun adE hfE hE ρ σ o s Q E fr eq X hQ => by
  obtain ⟨⟨v, σ1⟩, e1, eq⟩ := Option.bind_eq_some_iff.mp eq
  obtain ⟨b', e2, eq⟩ := Option.bind_eq_some_iff.mp eq
  obtain ⟨ad, hf, m, oa, S, F, X⟩ := X
  refine wpAny_If (ht _ _ _ σ1 b' _ _ _ _ _ _ _ (by show ((f ρ σ).bind _) = _; rw [e1]; show ((asB v).map _) = _; rw [e2]; rfl) S F fun h1 tk1 ad1 hf1 S1 E1 => ?_)
  have Y : In prog w cls h₀ adE hfE hE env ρ σ1 h1 := ⟨ad1, hf1, m, oa, S1, F.ext E1, X.trans E1⟩
  have hQ' : OutOk prog w cls h₀ adE hfE hE env Q { s with heap := h1, toks := tk1 } o := by cases o <;> exact hQ
  cases b' with
  | true => exact ha _ _ _ _ _ o { s with heap := h1, toks := tk1 } _ _ fr eq Y hQ'
  | false => exact hb _ _ _ _ _ o { s with heap := h1, toks := tk1 } _ _ fr eq Y hQ'
theorem s_ret {f : Ev} {e : Expr} {p : Pos} (hx : XOk prog w cls h₀ env A f e) : SOk prog w cls h₀ env A (fun ρ σ => (f ρ σ).map fun (v, σ) => .ret v σ) (.Return (some e) p) := fun adE hfE hE ρ σ o s Q E fr eq X hQ => by
  obtain ⟨⟨v, σ1⟩, e1, eq⟩ := Option.map_eq_some_iff.mp eq
  cases eq
  obtain ⟨ad, hf, m, oa, S, F, X⟩ := X
  refine wpAny_Return_some (hx _ _ _ _ _ _ _ _ _ _ _ _ e1 S F fun v1 h1 tk1 ad1 hf1 S1 E1 V1 => ?_)
  exact hQ h1 tk1 v1 ρ ad1 hf1 m oa S1 (F.ext E1) (X.trans E1) V1
theorem s_expr {f : Ev} {e : Expr} {p : Pos} (hc : isComp e = false) (hx : XOk prog w cls h₀ env A f e) : SOk prog w cls h₀ env A (fun ρ σ => (f ρ σ).bind fun (v, σ) => match v with
    | .int _ => some (.next ρ σ)
    | _ => Option.none) (.Expr e p) := fun adE hfE hE ρ σ o s Q E fr eq X hQ => by
  obtain ⟨⟨v, σ1⟩, e1, eq⟩ := Option.bind_eq_some_iff.mp eq
  dsimp only at eq
  split at eq
  · cases eq
    obtain ⟨ad, hf, m, oa, S, F, X⟩ := X
    refine wpAny_Expr (hx _ _ _ _ _ _ _ _ _ _ _ _ e1 S F fun v1 h1 tk1 ad1 hf1 S1 E1 V1 => ?_) (F_fun F.kind) (swaps_not hc _ _ _)
    rw [VRel] at V1
    obtain ⟨t, rfl⟩ := V1
    exact hQ h1 tk1 ⟨ad1, hf1, m, oa, S1, F.ext E1, X.trans E1⟩
  · cases eq
theorem s_whil {f : Ev} {g : Evo} {t : Expr} {b : List Stmt} {fuel : Nat} {p : Pos} (ht : TOk prog w cls h₀ env A f t) (hb : BodyOk prog w cls h₀ env A g b) :
    SOk prog w cls h₀ env A (fun ρ σ => whileL (toB f) g fuel ρ σ) (.While t b [] p) := fun adE hfE hE ρ σ o s Q E fr eq X hQ => by
  refine wpAny_While (while_sound (E := cameBackBy (model prog w) A env E) fr (fun adE hfE hE ρ σ σ' b s Q E fr e X h => ?_) hb eq X hQ)
  obtain ⟨ad, hf, m, oa, S, F, X⟩ := X
  exact ht _ _ _ _ _ _ _ _ _ _ _ _ e S F fun h1 tk1 ad1 hf1 S1 E1 => h h1 tk1 ⟨ad1, hf1, m, oa, S1, F.ext E1, X.trans E1⟩
end
end Mine
/-! part NG -/
namespace Mine
open PySem PySem.W PyProof.Rows

section
variable {prog : Program} {w : World} {cls : Nat → Addr} {h₀ h h' h'' h1 : Heap} {tb : Nat → Option AV} {fa : Nat → Addr} {K : Frag} {mg mb : Str → Option Value} {env : Env} {A : Around} {ad ad' adE ad1 : Ad} {hf hf' hfE hE hf1 : Fz} {σ σ' : Sto} {ρ : Loc} {s : Shared} {m : Str → Option Value} {oa : Nat → Addr} {E : Value → Shared → Prop} {cf : Callf}

theorem ExtF.comp (X : ExtF adE hfE hE ad1 hf1 h1) (Y : ExtF ad1 hf1 hE ad hf h) : ExtF adE hfE hE ad hf h := by
  refine ⟨fun a o e => Y.hm _ _ (X.hm _ _ e), fun a o e f n => Y.hn a o e (X.off e f) (X.hn a o e f n), ?_, fun a o e f => Y.kp a o e (X.off e f), Y.ke⟩
  obtain ⟨l, rfl, hl⟩ := X.ap
  obtain ⟨l', rfl, hl'⟩ := Y.ap
  refine ⟨l ++ l', List.append_assoc .., fun p hp => ?_⟩
  rcases List.mem_append.mp hp with q | q
  · exact hl p q
  · exact hl' p q
theorem ExtF.rebase (X : ExtF adE hfE hE ad1 hf1 h1) : ExtF ad1 hf1 hE ad1 hf1 h1 := by
  refine ⟨fun _ _ e => e, fun _ _ _ _ n => n, ⟨[], (List.append_nil _).symm, fun _ hp => nomatch hp⟩, fun a o e f => X.kp a o e fun p hp => ?_, X.ke⟩
  obtain ⟨l, q, _⟩ := X.ap
  exact f p (q ▸ List.mem_append_left _ hp)
theorem OutOk.rebase {Q : Flow → Shared → Prop} {o : Out} (X : ExtF adE hfE hE ad1 hf1 h1) (hQ : OutOk prog w cls h₀ adE hfE hE env Q s o) {h2 : Heap} {tk2 : Nat} : OutOk prog w cls h₀ ad1 hf1 hE env Q { s with heap := h2, toks := tk2 } o := by
  cases o with
  | next ρ σ =>
    rintro h tk ⟨ad, hf, m, oa, S, F, Y⟩
    exact hQ h tk ⟨ad, hf, m, oa, S, F, X.comp Y⟩
  | ret a σ => exact fun h tk v ρ ad hf m oa S F Y V => hQ h tk v ρ ad hf m oa S F (X.comp Y) V
theorem In.base {ρ : Loc} (S : Sit prog w cls h₀ ad1 hf1 σ h1) (F : Fra prog w hE env ρ ad1 hf1 h1 m oa) (X : ExtF adE hfE hE ad1 hf1 h1) : In prog w cls h₀ ad1 hf1 hE env ρ σ h1 := ⟨ad1, hf1, m, oa, S, F, X.rebase⟩

/-! loops over a sequence -/
theorem s_for1 {f : Ev} {g : Evo} {t : Nat} {i : Expr} {b : List Stmt} {p p' : Pos} (hh : A.handled = none) (ht : okK env t) (hn : notSet i = true) (hx : XOk prog w cls h₀ env A f i) (hb : BodyOk prog w cls h₀ env A g b) :
    SOk prog w cls h₀ env A (fun ρ σ => (f ρ σ).bind fun (v, σ) => (items v).bind fun L => forL (fun v ρ σ => g (put t (.val v) ρ) σ) L ρ σ) (.For (.Name (Wn t) p) i b [] p') := fun adE hfE hE ρ σ o s Q E fr eq X hQ => by
  obtain ⟨⟨v, σ1⟩, e1, eq⟩ := Option.bind_eq_some_iff.mp eq
  obtain ⟨L, e2, eq⟩ := Option.bind_eq_some_iff.mp eq
  obtain ⟨ad, hf, m, oa, S, F, X⟩ := X
  refine wpAny_For (hx _ _ _ _ _ _ _ _ _ _ _ _ e1 S F fun v1 h1 tk1 ad1 hf1 S1 E1 V1 => ?_) (notSet_folded hn env)
  have F1 := F.ext E1
  have X1 := X.trans E1
  obtain ⟨k, l, rfl, B⟩ := hfSeq e2 V1
  obtain ⟨vs, n, hl, R⟩ := B.now S1 (Ext.refl ad1 hf1 h1)
  refine iter_seq hl ?_
  have Y := In.base S1 F1 X1
  obtain ⟨Y2, pv⟩ := Y.add1 (I := h1.objs.size) (o := iObj k l 0) (size_none h1) (Grow.push h1 _) (Heap.get?_push_size _ rfl)
  have hQ' := OutOk.rebase (h2 := h1.push (iObj k l 0)) (tk2 := tk1) X1 hQ
  cases k with
  | true => exact for_sound (s := { s with heap := h1.push (iObj true l 0), toks := tk1 }) (E := cameBackBy (model prog w) A env E) fr (turn_list_name fr ht B) (done_list hh B) hb eq ⟨_, ⟨rfl, rfl⟩, rfl⟩ pv Y2 hQ'
  | false => exact for_sound (s := { s with heap := h1.push (iObj false l 0), toks := tk1 }) (E := cameBackBy (model prog w) A env E) fr (turn_tuple_name fr ht B) (done_tuple hh B) hb eq ⟨_, ⟨rfl, rfl⟩, rfl⟩ pv Y2 hQ'
theorem preT_eq {ks : List Nat} {g : Evo} : (fun (v : AV) (ρ : Loc) (σ : Sto) => match v with
    | .tup l => (putAll ks l ρ).bind fun ρ => g ρ σ
    | _ => Option.none) = fun a ρ σ => (preT ks a ρ).bind fun ρ => g ρ σ := by
  funext v ρ σ
  cases v <;> rfl
theorem s_for2 {f : Ev} {g : Evo} {ks : List Nat} {es : List Expr} {x1} {i : Expr} {b : List Stmt} {p p' : Pos} (hh : A.handled = none) (N : NamesAre ks es) (hk : ∀ k ∈ ks, okK env k) (hn : notSet i = true) (hx : XOk prog w cls h₀ env A f i) (hb : BodyOk prog w cls h₀ env A g b) :
    SOk prog w cls h₀ env A (fun ρ σ => (f ρ σ).bind fun (v, σ) => (match v with
      | .lst L => forL (fun v ρ σ => match v with
        | .tup l => (putAll ks l ρ).bind fun ρ => g ρ σ
        | _ => Option.none) L ρ σ
      | _ => Option.none)) (.For (.Tuple es x1 p) i b [] p') := fun adE hfE hE ρ σ o s Q E fr eq X hQ => by
  obtain ⟨⟨v, σ1⟩, e1, eq⟩ := Option.bind_eq_some_iff.mp eq
  dsimp only at eq
  split at eq
  · rename_i L
    rw [preT_eq] at eq
    obtain ⟨ad, hf, m, oa, S, F, X⟩ := X
    refine wpAny_For (hx _ _ _ _ _ _ _ _ _ _ _ _ e1 S F fun v1 h1 tk1 ad1 hf1 S1 E1 V1 => ?_) (notSet_folded hn env)
    have F1 := F.ext E1
    have X1 := X.trans E1
    rw [VRel] at V1
    obtain ⟨l, vs, n, rfl, hq, R⟩ := V1
    have B : SeqAtB prog w ad1 hf1 "list" l L := ⟨vs, n, hq, R⟩
    refine iter_seq (b := true) (S1.fro _ _ hq) ?_
    have Y := In.base S1 F1 X1
    obtain ⟨Y2, pv⟩ := Y.add1 (I := h1.objs.size) (o := iObj true l 0) (size_none h1) (Grow.push h1 _) (Heap.get?_push_size _ rfl)
    have hQ' := OutOk.rebase (h2 := h1.push (iObj true l 0)) (tk2 := tk1) X1 hQ
    exact for_sound (s := { s with heap := h1.push (iObj true l 0), toks := tk1 }) (E := cameBackBy (model prog w) A env E) fr (turn_list_tup hh N fr hk B) (done_list hh B) hb eq ⟨_, ⟨rfl, rfl⟩, rfl⟩ pv Y2 hQ'
  · cases eq
theorem s_forR {f : Ev} {g : Evo} {t : Nat} {x : Expr} {b : List Stmt} {p p' q q' : Pos} (W : Wd prog w cls h₀ tb fa K mg mb) (hh : A.handled = none) (ht : okK env t) (hk : env.kindOf ("range" : Str) = some .globalImplicit) (hs : notStar x = true) (hx : XOk prog w cls h₀ env A f x) (hb : BodyOk prog w cls h₀ env A g b) :
    SOk prog w cls h₀ env A (fun ρ σ => (f ρ σ).bind fun (v, σ) => (match v with
      | .int n => if decide (0 ≤ n) && decide (n ≤ 1000) then forL (fun v ρ σ => g (put t (.val v) ρ) σ) (rangeL n.toNat) ρ σ else Option.none
      | _ => Option.none)) (.For (.Name (Wn t) p) (.Call (.Name ("range" : Str) q) [x] [] q') b [] p') := fun adE hfE hE ρ σ o s Q E fr eq X hQ => by
  obtain ⟨⟨v, σ1⟩, e1, eq⟩ := Option.bind_eq_some_iff.mp eq
  dsimp only at eq
  split at eq
  · rename_i n
    split at eq
    · rename_i hn
      rw [Bool.and_eq_true, decide_eq_true_eq, decide_eq_true_eq] at hn
      obtain ⟨N, rfl⟩ : ∃ N : Nat, n = (N : Int) := ⟨n.toNat, by omega⟩
      rw [Int.toNat_natCast] at eq
      obtain ⟨ad, hf, m, oa, S, F, X⟩ := X
      refine wpAny_For ?_ (fun _ => rfl)
      refine bi_call W S F hk (by decide +kernel) (fv := .type "range") (by simp [biList]) (.inr ⟨_, rfl⟩) (by rw [List.all_cons, hs]; rfl)
        (wpAny_items_cons (hx _ _ _ _ _ _ _ _ _ _ _ _ e1 S F fun v1 h1 tk1 ad1 hf1 S1 E1 V1 => wpAny_items_nil ?_) (starEach_cons hs _ _))
      rw [VRel] at V1
      obtain ⟨tk, rfl⟩ := V1
      refine call_range_1 ?_
      generalize hH : (h1.push { cls := .type "range", data := .fields #[.int 0 tk1, .int (N : Int) tk, .int 1 (tk1 + 1)] }) = H
      have gr : Grow h1 H := hH ▸ Grow.push _ _
      have hr : IsRange H h1.objs.size 0 N 1 tk1 tk (tk1 + 1) := by rw [← hH]; exact Heap.get?_push_size _ rfl
      have sz : Builtin.Range.rangeSize 0 (N : Int) 1 = (N : Int) := by rw [rangeSize_nat]; simp
      refine wpAny_pyIter_range hr ?_ ?_
      · unfold Builtin.Range.small
        rw [sz]
        have f : ∀ z : Int, 0 ≤ z → z ≤ 1001 → Builtin.Range.rangeFitsLong z = true := fun z h1 h2 => by
          unfold Builtin.Range.rangeFitsLong
          simp only [Bool.and_eq_true, decide_eq_true_eq]
          omega
        rw [f 0 (by omega) (by omega), f N (by omega) (by omega), f 1 (by omega) (by omega)]
        have := f (N + (1 - 1)) (by omega) (by omega)
        simp only [Bool.true_and, Bool.or_eq_true]
        right
        rw [if_pos (by decide)]; exact this
      · rw [sz]
        have S2 := S1.grow gr
        have F2 := (F.ext E1).ext gr.ext
        have X2 := (X.trans E1).trans (gr.ext (ad := ad1) (hf := hf1))
        have Y := In.base S2 F2 X2
        have e0 : rObj ((0 : Nat) : Int) ((N : Int) - ((0 : Nat) : Int)) = { cls := .type "range_iterator", data := .fields #[rawInt 0, rawInt (N : Int), rawInt 1] } := by simp [rObj]
        obtain ⟨Y2, pv⟩ := Y.add1 (I := H.objs.size) (o := rObj ((0 : Nat) : Int) ((N : Int) - ((0 : Nat) : Int))) (size_none H) (Grow.push H { cls := .type "range_iterator", data := .fields #[rawInt 0, rawInt (N : Int), rawInt 1] }) (by rw [e0]; exact Heap.get?_push_size _ rfl)
        have hQ' := OutOk.rebase (h2 := H.push { cls := .type "range_iterator", data := .fields #[rawInt 0, rawInt (N : Int), rawInt 1] }) (tk2 := tk1 + 1 + 1) X2 hQ
        exact for_sound (s := { s with heap := H.push { cls := .type "range_iterator", data := .fields #[rawInt 0, rawInt (N : Int), rawInt 1] }, toks := tk1 + 1 + 1 }) (E := cameBackBy (model prog w) A env E) fr (turn_range fr ht) (done_range hh) hb eq rfl pv Y2 hQ'
    · cases eq
  · cases eq
theorem s_forE {f : Ev} {g : Evo} {ks : List Nat} {es : List Expr} {x1} {x : Expr} {b : List Stmt} {p p' q q' : Pos} (W : Wd prog w cls h₀ tb fa K mg mb) (hh : A.handled = none) (N : NamesAre ks es) (hks : ∀ k ∈ ks, okK env k) (hk : env.kindOf ("enumerate" : Str) = some .globalImplicit) (hs : notStar x = true) (hx : XOk prog w cls h₀ env A f x) (hb : BodyOk prog w cls h₀ env A g b) :
    SOk prog w cls h₀ env A (fun ρ σ => (f ρ σ).bind fun (v, σ) => (match v with
      | .lst L => if fits L then forL (fun v ρ σ => match v with
        | .tup l => (putAll ks l ρ).bind fun ρ => g ρ σ
        | _ => Option.none) (enumL 0 L) ρ σ else Option.none
      | _ => Option.none)) (.For (.Tuple es x1 p) (.Call (.Name ("enumerate" : Str) q) [x] [] q') b [] p') := fun adE hfE hE ρ σ o s Q E fr eq X hQ => by
  obtain ⟨⟨v, σ1⟩, e1, eq⟩ := Option.bind_eq_some_iff.mp eq
  dsimp only at eq
  split at eq
  · rename_i L
    split at eq
    · rename_i hfit
      rw [preT_eq] at eq
      obtain ⟨ad, hf, m, oa, S, F, X⟩ := X
      refine wpAny_For ?_ (fun _ => rfl)
      refine bi_call W S F hk (by decide +kernel) (fv := .type "enumerate") (by simp [biList]) (.inr ⟨_, rfl⟩) (by rw [List.all_cons, hs]; rfl)
        (wpAny_items_cons (hx _ _ _ _ _ _ _ _ _ _ _ _ e1 S F fun v1 h1 tk1 ad1 hf1 S1 E1 V1 => wpAny_items_nil ?_) (starEach_cons hs _ _))
      rw [VRel] at V1
      obtain ⟨l, vs, n, rfl, hq, R⟩ := V1
      have B : SeqAtB prog w ad1 hf1 "list" l L := ⟨vs, n, hq, R⟩
      refine call_enumerate_1 (S1.fro _ _ hq) fun H he hit hsz gr => ?_
      refine wpAny_pyIter_enum he ?_
      have F1 := F.ext E1
      have X1 := X.trans E1
      obtain ⟨oi, j1, j2, j3⟩ := id hit
      have ne : h1.objs.size + 1 ≠ h1.objs.size := Nat.succ_ne_self _
      have Y := In.base S1 F1 X1
      obtain ⟨Y2, pv⟩ := In.turn (g := fun _ => none) (g' := gun (one (h1.objs.size + 1) (eObj h1.objs.size ((0 : Nat) : Int) .none)) (one h1.objs.size oi)) (h' := H) Y PvG.emp (fun a x q _ => gr a x q) fun a x q => by
        rcases gun_cases q with q | ⟨_, q⟩
        · obtain ⟨rfl, rfl⟩ := one_some q; exact ⟨he, .inr (Heap.get?_none_of_le (Nat.le_succ _))⟩
        · obtain ⟨rfl, rfl⟩ := one_some q; exact ⟨j1, .inr (size_none h1)⟩
      have hQ' := OutOk.rebase (h2 := H) (tk2 := tk1) X1 hQ
      exact for_sound (s := { s with heap := H, toks := tk1 }) (E := cameBackBy (model prog w) A env E) fr (turn_enum hh ne N fr hks B) (done_enum hh ne B) hb eq ⟨.none, oi, ⟨j2, j3⟩, rfl⟩ pv Y2 hQ'
    · cases eq
  · cases eq
end
end Mine
/-! part NH -/
namespace Mine
open PySem PySem.W PyProof.Rows

theorem oq {a b : Bool} (h : (!a || b) = true) : a = false ∨ b = true := by
  cases a with
  | false => exact .inl rfl
  | true => exact .inr h
theorem i_asg {P : Stmt → Prop} {e : Stmt} {F : Expr × Expr → Bool} (h : onB (vAsg e) F = true) (c : ∀ t v p, F (t, v) = true → P (.Assign [t] v p)) : P e := by
  replace h := onB_is h; obtain ⟨⟨t, v⟩, q, h⟩ := h
  obtain ⟨p, rfl⟩ := vAsg_is q; exact c _ _ _ h
theorem i_exp {P : Stmt → Prop} {e : Stmt} {F : Expr → Bool} (h : onB (vExp e) F = true) (c : ∀ t p, F t = true → P (.Expr t p)) : P e := by
  replace h := onB_is h; obtain ⟨t, q, h⟩ := h
  obtain ⟨p, rfl⟩ := vExp_is q; exact c _ _ h
theorem i_ret {P : Stmt → Prop} {e : Stmt} {F : Expr → Bool} (h : onB (vRet e) F = true) (c : ∀ t p, F t = true → P (.Return (some t) p)) : P e := by
  replace h := onB_is h; obtain ⟨t, q, h⟩ := h
  obtain ⟨p, rfl⟩ := vRet_is q; exact c _ _ h
theorem i_ifS {P : Stmt → Prop} {e : Stmt} {F : Expr × List Stmt × List Stmt → Bool} (h : onB (vIfS e) F = true) (c : ∀ t x y p, F (t, x, y) = true → P (.If t x y p)) : P e := by
  replace h := onB_is h; obtain ⟨⟨t, x, y⟩, q, h⟩ := h
  obtain ⟨p, rfl⟩ := vIfS_is q; exact c _ _ _ _ h
theorem i_for {P : Stmt → Prop} {e : Stmt} {F : Expr × Expr × List Stmt → Bool} (h : onB (vFor e) F = true) (c : ∀ t i b p, F (t, i, b) = true → P (.For t i b [] p)) : P e := by
  replace h := onB_is h; obtain ⟨⟨t, x, y⟩, q, h⟩ := h
  obtain ⟨p, rfl⟩ := vFor_is q; exact c _ _ _ _ h
theorem i_while {P : Stmt → Prop} {e : Stmt} {F : Expr × List Stmt → Bool} (h : onB (vWhile e) F = true) (c : ∀ t b p, F (t, b) = true → P (.While t b [] p)) : P e := by
  replace h := onB_is h; obtain ⟨⟨t, x⟩, q, h⟩ := h
  obtain ⟨p, rfl⟩ := vWhile_is q; exact c _ _ _ h
theorem i_meth0 {P : Expr → Prop} {e : Expr} {F : Expr × Str × List Expr → Bool} {n0 : Str} (h : onB (vMeth e) F = true) (hn : ∀ o n l, F (o, n, l) = true → n = n0) (h0 : ∀ o n l, F (o, n, l) = true → l.isEmpty = true) (c : ∀ o ap p, (ap.endLine == p.line) = true → F (o, n0, []) = true → P (.Call (.Attribute o n0 ap) [] [] p)) : P e := by
  replace h := onB_is h; obtain ⟨⟨o, n, l⟩, q, h⟩ := h
  obtain ⟨ap, p, rfl, hl⟩ := vMeth_is q
  obtain rfl := List.isEmpty_iff.mp (h0 _ _ _ h)
  obtain rfl := hn _ _ _ h; exact c _ _ _ hl h
theorem isComp_is {v : Expr} (h : isComp v = true) : (∃ a b c d, v = .ListComp a b c d) ∨ (∃ a b c d, v = .SetComp a b c d) ∨ (∃ a b c d e, v = .DictComp a b c d e) := by
  unfold isComp at h
  rw [Bool.or_eq_true, Bool.or_eq_true] at h
  rcases h with (h | h) | h
  · exact Expr.ListComp.elim (motive_1 := fun v => (∃ a b c d, v = .ListComp a b c d) ∨ (∃ a b c d, v = .SetComp a b c d) ∨ (∃ a b c d e, v = .DictComp a b c d e)) v (eq_of_beq h) fun a b c d => .inl ⟨a, b, c, d, rfl⟩
  · exact Expr.SetComp.elim (motive_1 := fun v => (∃ a b c d, v = .ListComp a b c d) ∨ (∃ a b c d, v = .SetComp a b c d) ∨ (∃ a b c d e, v = .DictComp a b c d e)) v (eq_of_beq h) fun a b c d => .inr (.inl ⟨a, b, c, d, rfl⟩)
  · exact Expr.DictComp.elim (motive_1 := fun v => (∃ a b c d, v = .ListComp a b c d) ∨ (∃ a b c d, v = .SetComp a b c d) ∨ (∃ a b c d e, v = .DictComp a b c d e)) v (eq_of_beq h) fun a b c d e => .inr (.inr ⟨a, b, c, d, e, rfl⟩)
theorem chkY_comp {sc : Scope} {y : Y} {v : Expr} (hc : isComp v = true) (h : chkY sc y v = true) : ∃ t src cond elt, y = .comp t src cond elt := by
  rcases isComp_is hc with ⟨_, _, _, _, rfl⟩ | ⟨_, _, _, _, rfl⟩ | ⟨_, _, _, _, _, rfl⟩ <;> (clear hc; cases y with
  | comp t src cond elt => exact ⟨t, src, cond, elt, rfl⟩
  | _ => exact Bool.noConfusion (show false = true from h))
theorem chkX_comp {sc : Scope} {x : X} {v : Expr} (hc : isComp v = true) (h : chkX sc x v = true) : ∃ y, x = .fresh y ∧ chkY sc y v = true := by
  rcases isComp_is hc with ⟨_, _, _, _, rfl⟩ | ⟨_, _, _, _, rfl⟩ | ⟨_, _, _, _, _, rfl⟩ <;> (clear hc; cases x with
  | fresh y => exact ⟨y, rfl, h⟩
  | _ => exact Bool.noConfusion (show false = true from h))
theorem stV_ok {env : Env} {k : Nat} (hf : env.func.isSome = true) (h : stV env.scope k = true) : okK env k := by
  simp only [stV, Bool.and_eq_true, Bool.or_eq_true, beq_iff_eq, decide_eq_true_eq] at h
  exact ⟨h.1, h.2.elim .inl fun z => .inr ⟨hf, z⟩⟩
theorem namesB_ok {env : Env} (hf : env.func.isSome = true) : ∀ {ks : List Nat} {es : List Expr}, namesB env.scope ks es = true → NamesAre ks es ∧ ∀ k ∈ ks, okK env k
  | [], es, h => by
    have := List.isEmpty_iff.mp (show es.isEmpty = true from h)
    subst this
    exact ⟨.nil, fun _ h => nomatch h⟩
  | k :: ks, es, h => by
    replace h := consB_is h
    obtain ⟨e, es, rfl, h⟩ := h
    simp only [Bool.and_eq_true] at h
    obtain ⟨p, rfl⟩ := nmIs_is h.1.1
    obtain ⟨N, o⟩ := namesB_ok hf h.2
    refine ⟨.cons N, fun j hj => ?_⟩
    rcases List.mem_cons.mp hj with rfl | hj
    · exact stV_ok hf h.1.2
    · exact o j hj
theorem chkSs_cons {sc : Scope} {s : S} {r : List S} {sts : List Stmt} (h : chkSs sc (s :: r) sts = true) :
    (∃ k, s = .frz k ∧ isV sc k = true ∧ chkSs sc r sts = true) ∨ (∃ st q, sts = st :: q ∧ chkS sc s st = true ∧ chkSs sc r q = true) := by
  have e : chkSs sc (s :: r) sts = match vFrz s with
    | some k => isV sc k && chkSs sc r sts
    | none => consB sts fun st sts => chkS sc s st && chkSs sc r sts := rfl
  rw [e] at h
  cases hv : vFrz s with
  | some k =>
    rw [hv] at h
    replace h : and _ _ = true := h
    rw [Bool.and_eq_true] at h
    exact .inl ⟨k, vFrz_is hv, h⟩
  | none =>
    rw [hv] at h
    replace h := consB_is h
    obtain ⟨st, q, rfl, h⟩ := h
    rw [Bool.and_eq_true] at h
    exact .inr ⟨st, q, rfl, h⟩

section
variable {prog : Program} {w : World} {cls : Nat → Addr} {h₀ : Heap} {tb : Nat → Option AV} {fa : Nat → Addr} {K : Frag} {mg mb : Str → Option Value} {A : Around} {cf : Callf}
theorem SOk.cg {env : Env} {f g : Evo} {st : Stmt} (h : SOk prog w cls h₀ env A f st) (q : ∀ ρ σ, g ρ σ = f ρ σ) : SOk prog w cls h₀ env A g st := by
  have : g = f := funext fun ρ => funext fun σ => q ρ σ
  subst this; exact h
theorem BodyOk.cg {env : Env} {f g : Evo} {st : List Stmt} (h : BodyOk prog w cls h₀ env A f st) (q : ∀ ρ σ, g ρ σ = f ρ σ) : BodyOk prog w cls h₀ env A g st := by
  have : g = f := funext fun ρ => funext fun σ => q ρ σ
  subst this; exact h
theorem so_own (W : Wd prog w cls h₀ tb fa K mg mb) (R : AOk prog w cls h₀ fa cf A) {env : Env} {k : Nat} {y : Y} {v : Expr} {p p' : Pos} (hk : okK env k) (h : chkY env.scope y v = true) :
    SOk prog w cls h₀ env A (fun ρ σ => (evY cf tb ρ y σ).map fun (l, σ) => .next (put k (.own l) ρ) σ) (.Assign [.Name (Wn k) p] v p') := by
  rcases swaps_name v (Wn k) p p'.line env with z | ⟨z, hc⟩
  · exact s_own hk z (soY W R y h)
  · obtain ⟨t, src, cond, elt, rfl⟩ := chkY_comp hc h
    revert z
    exact i_comp (P := fun v => swapsWith v (some (.Name (Wn k) p)) p'.line env = pure true → SOk prog w cls h₀ env A _ (.Assign [.Name (Wn k) p] v p')) h (fun el x it ifs sc h => bq (aL (aL (aL (aL (aL h)))))) fun el it ifs scope px p h => fun z => (s_ownC R.h hk z (aR (aL (aL (aL h)))) (aR (aL (aL (aL (aL h))))) (soX W R src (aR (aL (aL h)))).1 (fun cl C => soC W R cond (env := compEnvC scope cl C env) (aR (aL h))) (fun cl C => (soX W R elt (env := compEnvC scope cl C env) (aR h)).1)).cg fun _ _ => rfl
theorem so_asg (W : Wd prog w cls h₀ tb fa K mg mb) (R : AOk prog w cls h₀ fa cf A) {env : Env} {k : Nat} {x : X} {v : Expr} {p p' : Pos} (hk : okK env k) (h : chkX env.scope x v = true) :
    SOk prog w cls h₀ env A (fun ρ σ => (evX cf tb ρ x σ).map fun (v, σ) => .next (put k (.val v) ρ) σ) (.Assign [.Name (Wn k) p] v p') := by
  rcases swaps_name v (Wn k) p p'.line env with z | ⟨z, hc⟩
  · exact s_asg hk z (soX W R x h).1
  · obtain ⟨y, rfl, hy⟩ := chkX_comp hc h
    obtain ⟨t, src, cond, elt, rfl⟩ := chkY_comp hc hy
    revert z
    exact i_comp (P := fun v => swapsWith v (some (.Name (Wn k) p)) p'.line env = pure true → SOk prog w cls h₀ env A _ (.Assign [.Name (Wn k) p] v p')) hy (fun el x it ifs sc h => bq (aL (aL (aL (aL (aL h)))))) fun el it ifs scope px p h => fun z => (s_asgC R.h hk z (aR (aL (aL (aL h)))) (aR (aL (aL (aL (aL h))))) (soX W R src (aR (aL (aL h)))).1 (fun cl C => soC W R cond (env := compEnvC scope cl C env) (aR (aL h))) (fun cl C => (soX W R elt (env := compEnvC scope cl C env) (aR h)).1)).cg fun _ _ => rfl

mutual
theorem soS (W : Wd prog w cls h₀ tb fa K mg mb) (R : AOk prog w cls h₀ fa cf A) {env : Env} (hf : env.func.isSome = true) : ∀ (x : S) {st : Stmt}, chkS env.scope x st = true → SOk prog w cls h₀ env A (fun ρ σ => evS cf tb x ρ σ) st
  | .asg k x, st, h => i_asg h fun e v ps h => i_nm (P := fun e => SOk prog w cls h₀ env A _ (.Assign [e] v ps)) (aL (aL h)) fun p => (so_asg W R (stV_ok hf (aR (aL h))) (aR h)).cg fun _ _ => rfl
  | .own k y, st, h => i_asg h fun e v ps h => i_nm (P := fun e => SOk prog w cls h₀ env A _ (.Assign [e] v ps)) (aL (aL h)) fun p => (so_own W R (stV_ok hf (aR (aL h))) (aR h)).cg fun _ _ => rfl
  | .unp ks x, st, h => i_asg h fun t v ps h => i_tup (P := fun t => SOk prog w cls h₀ env A _ (.Assign [t] v ps)) h fun es kt pt h => (s_unp R.h (namesB_ok hf (aL (aL (aL h)))).1 (namesB_ok hf (aL (aL (aL h)))).2 (nq (aR (aL h))) (oq (aR (aL (aL h)))) (soX W R x (aR h)).1).cg fun _ _ => rfl
  | .setA o k x, st, h => i_asg h fun t v ps h => i_attr (P := fun t => SOk prog w cls h₀ env A _ (.Assign [t] v ps)) h (fun o m h => bq (aR (aL (aL (aL h))))) fun e pt h => (s_setA W (dq (aL (aL (aL (aL h))))) (nq (aR (aL (aL h)))) (soX W R x (aR (aL h))).1 (soX W R o (aR h)).1).cg fun _ _ => rfl
  | .setM o i x, st, h => i_asg h fun t v ps h => i_sub (P := fun t => SOk prog w cls h₀ env A _ (.Assign [t] v ps)) h fun e sl pt h => (s_setM (nq (aL (aL (aL h)))) (soX W R x (aR (aL (aL h)))).1 (soX W R o (aR (aL h))).1 (soX W R i (aR h)).1).cg fun _ _ => rfl
  | .setO k i x, st, h => i_asg h fun t v ps h => i_sub (P := fun t => SOk prog w cls h₀ env A _ (.Assign [t] v ps)) h fun e sl pt h => i_nm (P := fun o => SOk prog w cls h₀ env A _ (.Assign [.Subscript o sl pt] v ps)) (aR (aL (aL (aL h)))) fun p => (s_setO (lt_V (aR (aL (aL h)))) (kd_V (aR (aL (aL h)))) (nq (aL (aL (aL (aL h))))) (soX W R x (aR (aL h))).1 (soX W R i (aR h)).1).cg fun _ _ => rfl
  | .app k x, st, h => i_exp h fun m ps h => i_meth1 (P := fun m => SOk prog w cls h₀ env A _ (.Expr m ps)) h (fun _ _ _ => rfl) (fun o n x h => bq (aL (aL (aL (aL h))))) fun o e ap p hl h => i_nm (P := fun o => SOk prog w cls h₀ env A _ (.Expr (.Call (.Attribute o ("append" : Str) ap) [e] [] p) ps)) (aR (aL (aL (aL h)))) fun p' => (s_app (lt_V (aR (aL (aL h)))) (kd_V (aR (aL (aL h)))) hl (aR (aL h)) (soX W R x (aR h)).1).cg fun _ _ => rfl
  | .ext k x, st, h => i_exp h fun m ps h => i_meth1 (P := fun m => SOk prog w cls h₀ env A _ (.Expr m ps)) h (fun _ _ _ => rfl) (fun o n x h => bq (aL (aL (aL (aL h))))) fun o e ap p hl h => i_nm (P := fun o => SOk prog w cls h₀ env A _ (.Expr (.Call (.Attribute o ("extend" : Str) ap) [e] [] p) ps)) (aR (aL (aL (aL h)))) fun p' => (s_ext (lt_V (aR (aL (aL h)))) (kd_V (aR (aL (aL h)))) hl (aR (aL h)) (soX W R x (aR h)).1).cg fun _ _ => rfl
  | .pop t k, st, h => i_asg h fun e m ps h => i_nm (P := fun e => SOk prog w cls h₀ env A _ (.Assign [e] m ps)) (aL (aL h)) fun p0 => i_meth0 (P := fun m => SOk prog w cls h₀ env A _ (.Assign [.Name (Wn t) p0] m ps)) (aR h) (fun o n l h => bq (aR (aL (aL h)))) (fun o n l h => aL (aL (aL h))) fun o ap p hl h' => i_nm (P := fun o => SOk prog w cls h₀ env A _ (.Assign [.Name (Wn t) p0] (.Call (.Attribute o ("pop" : Str) ap) [] [] p) ps)) (aR (aL h')) fun p' => (s_pop (lt_V (aR h')) (kd_V (aR h')) (stV_ok hf (aR (aL h))) hl).cg fun _ _ => rfl
  | .ite c a b, st, h => i_ifS h fun t x y ps h => (s_ite (soX W R c (aL (aL h))).2 (soSs W R hf a (aR (aL h))) (soSs W R hf b (aR h))).cg fun _ _ => rfl
  | .for1 t it b, st, h => i_for h fun tg i x ps h => i_nm (P := fun tg => SOk prog w cls h₀ env A _ (.For tg i x [] ps)) (aL (aL (aL (aL h)))) fun p => (s_for1 R.h (stV_ok hf (aR (aL (aL (aL h))))) (aR (aL (aL h))) (soX W R it (aR (aL h))).1 (soSs W R hf b (aR h))).cg fun _ _ => rfl
  | .for2 t u it b, st, h => i_for h fun tg i x ps h => i_tup (P := fun tg => SOk prog w cls h₀ env A _ (.For tg i x [] ps)) h fun es kt pt h => (s_for2 R.h (namesB_ok hf (aL (aL (aL h)))).1 (namesB_ok hf (aL (aL (aL h)))).2 (aR (aL (aL h))) (soX W R it (aR (aL h))).1 (soSs W R hf b (aR h))).cg fun _ _ => rfl
  | .forE t u it b, st, h => i_for h fun tg i x ps h => i_tup (P := fun tg => SOk prog w cls h₀ env A _ (.For tg i x [] ps)) h fun es kt pt h => i_call1 (P := fun i => SOk prog w cls h₀ env A _ (.For (.Tuple es kt pt) i x [] ps)) (aR (aL h)) (fun _ _ => rfl) (fun n x h => bq (aL (aL (aL h)))) fun a p p' h' => (s_forE W R.h (namesB_ok hf (aL (aL (aL h)))).1 (namesB_ok hf (aL (aL (aL h)))).2 (isG_kind rfl (aR (aL (aL h')))) (aR (aL h')) (soX W R it (aR h')).1 (soSs W R hf b (aR h))).cg fun _ _ => rfl
  | .forR t m b, st, h => i_for h fun tg i x ps h => i_nm (P := fun tg => SOk prog w cls h₀ env A _ (.For tg i x [] ps)) (aL (aL (aL (aL h)))) fun p0 => i_call1 (P := fun i => SOk prog w cls h₀ env A _ (.For (.Name (Wn t) p0) i x [] ps)) (aR (aL h)) (fun _ _ => rfl) (fun n x h => bq (aL (aL (aL h)))) fun a p p' h' => (s_forR W R.h (stV_ok hf (aR (aL (aL (aL h))))) (isG_kind rfl (aR (aL (aL h')))) (aR (aL h')) (soX W R m (aR h')).1 (soSs W R hf b (aR h))).cg fun _ _ => rfl
  | .whil n c b, st, h => i_while h fun t x ps h => (s_whil (soX W R c (aL h)).2 (soSs W R hf b (aR h))).cg fun _ _ => rfl
  | .ret x, st, h => i_ret h fun e ps h => (s_ret (soX W R x h).1).cg fun _ _ => rfl
  | .expr x, st, h => i_exp h fun e ps h => (s_expr (nq (aL h)) (soX W R x (aR h)).1).cg fun _ _ => rfl
  | .frz k, st, h => by (conv at h => lhs; whnf); cases h
theorem soSs (W : Wd prog w cls h₀ tb fa K mg mb) (R : AOk prog w cls h₀ fa cf A) {env : Env} (hf : env.func.isSome = true) : ∀ (x : List S) {sts : List Stmt}, chkSs env.scope x sts = true → BodyOk prog w cls h₀ env A (fun ρ σ => evSs cf tb x ρ σ) sts
  | [], sts, h => by
    (conv at h => lhs; whnf)
    have := List.isEmpty_iff.mp h
    subst this
    exact b_nil.cg fun _ _ => rfl
  | s :: r, sts, h => by
    rcases chkSs_cons h with ⟨k, rfl, hv, hr⟩ | ⟨st, q, rfl, hs, hr⟩
    · obtain ⟨hk, _⟩ := isV_kind (env := env) rfl hv
      exact (b_frz hk (soSs W R hf r hr)).cg fun _ _ => rfl
    · exact (b_cons (soS W R hf s hs) (soSs W R hf r hr)).cg fun _ _ => rfl
end
end
end Mine
/-! part NI -/
namespace Mine
open PySem PySem.W PyProof.Rows

noncomputable def tb0 : Nat → Option AV := fun k => if k = k_OPERANDS then some t_OPERANDS else if k = k_ENDS then some t_ENDS else none
noncomputable def cfD : Nat → Callf
  | 0 => fun _ _ _ => none
  | n + 1 => fun f args σ => match fns.find? (·.1 == f) with
    | some (_, ps, b) => runF (cfD n) tb0 ps b args σ
    | none => none

structure FnAt (h₀ : Heap) (a : Addr) (ps : List Nat) (b : List S) : Prop where
  x : ∃ o fd body, h₀.get? a = some o ∧ o.data = .func fd ∧ h₀.CodeRec fd.code fd.qualname ∧ FnOk fd ps body ∧ chkSs fd.scope b body = true
theorem room_deeper {A : Around} {n : Nat} (env : Env) (h : Room A (n + 1)) : Room (A.deeper env) n := by
  obtain ⟨h1, h2, h3⟩ := h
  refine ⟨h1, ?_, ?_⟩
  · show A.depth + 1 + 4 * (n + 1) < recursionLimit
    omega
  · show A.units + 3 + 16 * (n + 1) < cLine
    omega
section
variable {prog : Program} {w : World} {cls : Nat → Addr} {h₀ : Heap} {fa : Nat → Addr} {K : Frag} {mg mb : Str → Option Value}
theorem calls (W : Wd prog w cls h₀ tb0 fa K mg mb) (D : ∀ k ps b, (k, ps, b) ∈ fns → FnAt h₀ (fa k) ps b) : ∀ (n : Nat) (A : Around), Room A (2 * n) → CallOk prog w cls h₀ fa (cfD n) A
  | 0, A, hr => fun k l σ r σ' ad hf s vals R hk e S V fin => by cases e
  | n + 1, A, hr => fun k l σ r σ' ad hf s vals R hk e S V fin => by
    have e' : (match fns.find? (·.1 == k) with
      | some (_, ps, b) => runF (cfD n) tb0 ps b l σ
      | none => none) = some (r, σ') := e
    clear e
    split at e'
    · rename_i k' ps b q
      have hm := List.mem_of_find?_eq_some q
      have hk' : k' = k := by have := List.find?_some q; exact beq_iff_eq.mp this
      subst hk'
      obtain ⟨o, fd, body, ho, hd, hc, ok, hchk⟩ := (D k' ps b hm).x
      have g : Grow h₀ s.heap := S.keep0
      refine call_fn (by have := hr.2.1; omega) (g _ _ ho) hd (W.lim.keeps g) (hc.keeps g) ok S V e' (fun L => ?_) fin
      have hr1 : Room (A.deeper (callEnvC fd L (fa k'))) (2 * n + 1) := room_deeper _ (by rw [Nat.mul_succ] at hr; exact hr)
      have R' : AOk prog w cls h₀ fa (cfD n) (A.deeper (callEnvC fd L (fa k'))) :=
        ⟨hr1.1, by have := hr1.u; omega, calls W D n _ (hr1.le (Nat.le_succ _)), fun c vals => calls W D n _ (room_under _ _ hr1)⟩
      exact soSs W R' (env := callEnvC fd L (fa k')) rfl b hchk
    · cases e'
end
end Mine
/-! part HK -/
namespace Mine
open PySem PySem.W PyProof.Rows

/-! the laid heap, as far as it is wanted -/
noncomputable def pbody : List Stmt := PySem.Challenge.pw_nz0403_01.main.body
noncomputable def isDef (n : Str) : Stmt → Bool
  | .FunctionDef m .. => m == n
  | _ => false
noncomputable def stAt (n : Str) : Stmt := (pbody.find? (isDef n)).getD (.Pass ⟨0, 0, 0, 0⟩)
noncomputable def stIn (i : Nat) : Stmt := match pbody[i]? with
  | some (.ClassDef _ _ _ b ..) => (b.find? (isDef "__init__")).getD (.Pass ⟨0, 0, 0, 0⟩)
  | _ => .Pass ⟨0, 0, 0, 0⟩
noncomputable def fnOb (q : Str) (s : Stmt) (md : Str) (mt : Tok) (c : Addr) : Obj := match s with
  | .FunctionDef n ps b _ _ _ sc _ _ _ => { cls := .type "function", data := .func { name := n, qualname := q, params := ps, body := .stmts b, scope := sc, globals := 3, closure := [], defaults := .none, kwdefaults := .none, pyModule := .str md mt, code := .ref c } }
  | _ => { cls := .none, data := .plain }
noncomputable def kvH (P : Params) (k : Str) (t : Tok) (v : Value) : DictEntry := { hash := PyData.keyHash P k, key := .str k t, val := v }
noncomputable def hp (P : Params) : Frag := [
  (3, { cls := .type "dict", data := .dict #[kvH P "__name__" 165 (.str "law_nz0403_01" 507), kvH P "__doc__" 166 .none, kvH P "__package__" 167 .none, kvH P "__loader__" 168 (.builtin "__main__.__loader__#opaque"), kvH P "__spec__" 169 .none, kvH P "__annotations__" 170 (.ref 6), kvH P "__builtins__" 171 (.ref 4), kvH P "__file__" 173 (.str "/claim/cut.py" 172), kvH P "__cached__" 174 .none, kvH P "OPERANDS" 242 (.ref 15), kvH P "ENDS" 246 (.ref 29), kvH P "Procedure" 289 (.ref 46), kvH P "Unit" 324 (.ref 67), kvH P "entry_registers" 331 (.ref 78), kvH P "operand_pairs" 338 (.ref 85), kvH P "registers_read" 344 (.ref 90), kvH P "registers_written" 350 (.ref 95), kvH P "label_of" 359 (.ref 102), kvH P "places_behind" 370 (.ref 109), kvH P "is_count" 379 (.ref 116), kvH P "is_below" 387 (.ref 123), kvH P "are_registers" 393 (.ref 128), kvH P "is_closure_row" 402 (.ref 135), kvH P "are_closure_rows" 408 (.ref 140), kvH P "operand_fits" 420 (.ref 147), kvH P "instruction_word" 432 (.ref 154), kvH P "mask_of" 441 (.ref 161), kvH P "written_ahead" 455 (.ref 168), kvH P "unread_place" 466 (.ref 175), kvH P "head_word" 472 (.ref 180), kvH P "procedure_error" 486 (.ref 187), kvH P "start_word" 495 (.ref 194), kvH P "unit_error" 506 (.ref 201), kvH P "_law_pot" 514 (.ref 206), kvH P "_law_dip" 523 (.ref 213), kvH P "_law_body" 531 (.ref 220), kvH P "_law_led" 537 (.ref 225), kvH P "_law_unit" 543 (.ref 230), kvH P "_law_put" 554 (.ref 237), kvH P "_law_headed" 564 (.ref 244), kvH P "_law_operand" 578 (.ref 251), kvH P "_law_early" 588 (.ref 258), kvH P "law" 594 (.ref 263)] 43 }),
  (15, { cls := .type "dict", data := .dict #[kvH P "const" 189 (.ref 16), kvH P "move" 192 (.ref 17), kvH P "global" 195 (.ref 18), kvH P "setglobal" 198 (.ref 19), kvH P "define" 201 (.ref 20), kvH P "free" 204 (.ref 21), kvH P "closure" 207 (.ref 22), kvH P "fix" 211 (.ref 23), kvH P "prim" 213 (.ref 24), kvH P "jump" 217 (.ref 25), kvH P "branchfalse" 219 (.ref 26), kvH P "call" 222 (.ref 27), kvH P "give" 226 (.ref 28)] 13 }),
  (16, { cls := .type "tuple", data := .seq #[.str "target" 190, .str "constant" 191] }),
  (17, { cls := .type "tuple", data := .seq #[.str "target" 193, .str "source" 194] }),
  (18, { cls := .type "tuple", data := .seq #[.str "target" 196, .str "global" 197] }),
  (19, { cls := .type "tuple", data := .seq #[.str "global" 199, .str "source" 200] }),
  (20, { cls := .type "tuple", data := .seq #[.str "global" 202, .str "source" 203] }),
  (21, { cls := .type "tuple", data := .seq #[.str "target" 205, .str "free" 206] }),
  (22, { cls := .type "tuple", data := .seq #[.str "target" 208, .str "procedure" 209, .str "sources" 210] }),
  (23, { cls := .type "tuple", data := .seq #[.str "rows" 212] }),
  (24, { cls := .type "tuple", data := .seq #[.str "target" 214, .str "primitive" 215, .str "sources" 216] }),
  (25, { cls := .type "tuple", data := .seq #[.str "label" 218] }),
  (26, { cls := .type "tuple", data := .seq #[.str "source" 220, .str "label" 221] }),
  (27, { cls := .type "tuple", data := .seq #[.str "source" 223, .str "source" 224, .str "sources" 225] }),
  (28, { cls := .type "tuple", data := .seq #[.str "source" 227, .str "sources" 228] }),
  (29, { cls := .type "tuple", data := .seq #[.str "jump" 243, .str "call" 244, .str "give" 245] }),
  (42, { cls := .type "code", data := .fields #[.str "__init__" 259, .str "Procedure.__init__" 260, .str "/claim/cut.py" 261, .int 6 0, .int 9 0, .int 0 0, .int 0 0, .int 3 0, .ref 37, .bool true, .int 181 0, .ref 38, .none, .ref 39, .ref 40, .ref 41, .int 271 0, .int 6 0, .str "/claim/cut.py" 272] }),
  (43, fnOb "Procedure.__init__" (stIn 3) "scheme.instructions" 187 42),
  (45, { cls := .type "dict", data := .dict #[kvH P "__module__" 254 (.str "scheme.instructions" 187), kvH P "__firstlineno__" 258 (.int 4 257), kvH P "__init__" 273 (.ref 43), kvH P "__static_attributes__" 282 (.ref 44), kvH P "__dict__" 284 (.ref 47), kvH P "__weakref__" 286 (.ref 48), kvH P "__doc__" 287 .none] 4 }),
  (46, { cls := .type "type", data := .cls { name := "Procedure", bases := [.type "object"], mro := [.ref 46, .type "object"], ns := 45, qualname := "Procedure" }, slots := #[none, none, some (.str "Procedure" 247), some (.str "Procedure" 255), some (.builtin "object.__new__"), some (.bool true)] }),
  (63, { cls := .type "code", data := .fields #[.str "__init__" 302, .str "Unit.__init__" 303, .str "/claim/cut.py" 304, .int 17 0, .int 5 0, .int 0 0, .int 0 0, .int 3 0, .ref 58, .bool true, .int 181 0, .ref 59, .none, .ref 60, .ref 61, .ref 62, .int 310 0, .int 17 0, .str "/claim/cut.py" 311] }),
  (64, fnOb "Unit.__init__" (stIn 4) "scheme.instructions" 187 63),
  (66, { cls := .type "dict", data := .dict #[kvH P "__module__" 297 (.str "scheme.instructions" 187), kvH P "__firstlineno__" 301 (.int 15 300), kvH P "__init__" 312 (.ref 64), kvH P "__static_attributes__" 317 (.ref 65), kvH P "__dict__" 319 (.ref 68), kvH P "__weakref__" 321 (.ref 69), kvH P "__doc__" 322 .none] 4 }),
  (67, { cls := .type "type", data := .cls { name := "Unit", bases := [.type "object"], mro := [.ref 67, .type "object"], ns := 66, qualname := "Unit" }, slots := #[none, none, some (.str "Unit" 290), some (.str "Unit" 298), some (.builtin "object.__new__"), some (.bool true)] }),
  (77, { cls := .type "code", data := .fields #[.str "entry_registers" 325, .str "entry_registers" 326, .str "/claim/cut.py" 327, .int 22 0, .int 1 0, .int 0 0, .int 0 0, .int 3 0, .ref 72, .bool true, .int 181 0, .ref 73, .none, .ref 74, .ref 75, .ref 76, .int 329 0, .int 22 0, .str "/claim/cut.py" 330] }),
  (78, fnOb "entry_registers" (stAt "entry_registers") "scheme.instructions" 187 77),
  (84, { cls := .type "code", data := .fields #[.str "operand_pairs" 332, .str "operand_pairs" 333, .str "/claim/cut.py" 334, .int 24 0, .int 1 0, .int 0 0, .int 0 0, .int 3 0, .ref 79, .bool true, .int 181 0, .ref 80, .none, .ref 81, .ref 82, .ref 83, .int 336 0, .int 24 0, .str "/claim/cut.py" 337] }),
  (85, fnOb "operand_pairs" (stAt "operand_pairs") "scheme.instructions" 187 84),
  (89, { cls := .type "code", data := .fields #[.str "registers_read" 339, .str "registers_read" 340, .str "/claim/cut.py" 341, .int 26 0, .int 1 0, .int 0 0, .int 0 0, .int 3 0, .ref 86, .bool true, .int 181 0, .ref 87, .none, .none, .none, .ref 88, .int 342 0, .int 26 0, .str "/claim/cut.py" 343] }),
  (90, fnOb "registers_read" (stAt "registers_read") "scheme.instructions" 187 89),
  (94, { cls := .type "code", data := .fields #[.str "registers_written" 345, .str "registers_written" 346, .str "/claim/cut.py" 347, .int 38 0, .int 1 0, .int 0 0, .int 0 0, .int 3 0, .ref 91, .bool true, .int 181 0, .ref 92, .none, .none, .none, .ref 93, .int 348 0, .int 38 0, .str "/claim/cut.py" 349] }),
  (95, fnOb "registers_written" (stAt "registers_written") "scheme.instructions" 187 94),
  (101, { cls := .type "code", data := .fields #[.str "label_of" 351, .str "label_of" 352, .str "/claim/cut.py" 353, .int 46 0, .int 1 0, .int 0 0, .int 0 0, .int 3 0, .ref 96, .bool true, .int 181 0, .ref 97, .none, .ref 98, .ref 99, .ref 100, .int 357 0, .int 46 0, .str "/claim/cut.py" 358] }),
  (102, fnOb "label_of" (stAt "label_of") "scheme.instructions" 187 101),
  (108, { cls := .type "code", data := .fields #[.str "places_behind" 360, .str "places_behind" 361, .str "/claim/cut.py" 362, .int 51 0, .int 2 0, .int 0 0, .int 0 0, .int 3 0, .ref 103, .bool true, .int 181 0, .ref 104, .none, .ref 105, .ref 106, .ref 107, .int 368 0, .int 51 0, .str "/claim/cut.py" 369] }),
  (109, fnOb "places_behind" (stAt "places_behind") "scheme.instructions" 187 108),
  (115, { cls := .type "code", data := .fields #[.str "is_count" 373, .str "is_count" 374, .str "/claim/cut.py" 375, .int 59 0, .int 1 0, .int 0 0, .int 0 0, .int 3 0, .ref 110, .bool true, .int 181 0, .ref 111, .none, .ref 112, .ref 113, .ref 114, .int 377 0, .int 59 0, .str "/claim/cut.py" 378] }),
  (116, fnOb "is_count" (stAt "is_count") "scheme.verify" 371 115),
  (122, { cls := .type "code", data := .fields #[.str "is_below" 380, .str "is_below" 381, .str "/claim/cut.py" 382, .int 61 0, .int 2 0, .int 0 0, .int 0 0, .int 3 0, .ref 117, .bool true, .int 181 0, .ref 118, .none, .ref 119, .ref 120, .ref 121, .int 385 0, .int 61 0, .str "/claim/cut.py" 386] }),
  (123, fnOb "is_below" (stAt "is_below") "scheme.verify" 371 122),
  (127, { cls := .type "code", data := .fields #[.str "are_registers" 388, .str "are_registers" 389, .str "/claim/cut.py" 390, .int 63 0, .int 2 0, .int 0 0, .int 0 0, .int 3 0, .ref 124, .bool true, .int 181 0, .ref 125, .none, .none, .none, .ref 126, .int 391 0, .int 63 0, .str "/claim/cut.py" 392] }),
  (128, fnOb "are_registers" (stAt "are_registers") "scheme.verify" 371 127),
  (134, { cls := .type "code", data := .fields #[.str "is_closure_row" 394, .str "is_closure_row" 395, .str "/claim/cut.py" 396, .int 65 0, .int 3 0, .int 0 0, .int 0 0, .int 3 0, .ref 129, .bool true, .int 181 0, .ref 130, .none, .ref 131, .ref 132, .ref 133, .int 400 0, .int 65 0, .str "/claim/cut.py" 401] }),
  (135, fnOb "is_closure_row" (stAt "is_closure_row") "scheme.verify" 371 134),
  (139, { cls := .type "code", data := .fields #[.str "are_closure_rows" 403, .str "are_closure_rows" 404, .str "/claim/cut.py" 405, .int 71 0, .int 3 0, .int 0 0, .int 0 0, .int 3 0, .ref 136, .bool true, .int 181 0, .ref 137, .none, .none, .none, .ref 138, .int 406 0, .int 71 0, .str "/claim/cut.py" 407] }),
  (140, fnOb "are_closure_rows" (stAt "are_closure_rows") "scheme.verify" 371 139),
  (146, { cls := .type "code", data := .fields #[.str "operand_fits" 409, .str "operand_fits" 410, .str "/claim/cut.py" 411, .int 76 0, .int 5 0, .int 0 0, .int 0 0, .int 3 0, .ref 141, .bool true, .int 181 0, .ref 142, .none, .ref 143, .ref 144, .ref 145, .int 418 0, .int 76 0, .str "/claim/cut.py" 419] }),
  (147, fnOb "operand_fits" (stAt "operand_fits") "scheme.verify" 371 146),
  (153, { cls := .type "code", data := .fields #[.str "instruction_word" 421, .str "instruction_word" 422, .str "/claim/cut.py" 423, .int 85 0, .int 4 0, .int 0 0, .int 0 0, .int 3 0, .ref 148, .bool true, .int 181 0, .ref 149, .none, .ref 150, .ref 151, .ref 152, .int 430 0, .int 85 0, .str "/claim/cut.py" 431] }),
  (154, fnOb "instruction_word" (stAt "instruction_word") "scheme.verify" 371 153),
  (160, { cls := .type "code", data := .fields #[.str "mask_of" 433, .str "mask_of" 434, .str "/claim/cut.py" 435, .int 96 0, .int 1 0, .int 0 0, .int 0 0, .int 3 0, .ref 155, .bool true, .int 181 0, .ref 156, .none, .ref 157, .ref 158, .ref 159, .int 439 0, .int 96 0, .str "/claim/cut.py" 440] }),
  (161, fnOb "mask_of" (stAt "mask_of") "scheme.verify" 371 160),
  (167, { cls := .type "code", data := .fields #[.str "written_ahead" 442, .str "written_ahead" 443, .str "/claim/cut.py" 444, .int 101 0, .int 1 0, .int 0 0, .int 0 0, .int 3 0, .ref 162, .bool true, .int 181 0, .ref 163, .none, .ref 164, .ref 165, .ref 166, .int 453 0, .int 101 0, .str "/claim/cut.py" 454] }),
  (168, fnOb "written_ahead" (stAt "written_ahead") "scheme.verify" 371 167),
  (174, { cls := .type "code", data := .fields #[.str "unread_place" 456, .str "unread_place" 457, .str "/claim/cut.py" 458, .int 115 0, .int 1 0, .int 0 0, .int 0 0, .int 3 0, .ref 169, .bool true, .int 181 0, .ref 170, .none, .ref 171, .ref 172, .ref 173, .int 464 0, .int 115 0, .str "/claim/cut.py" 465] }),
  (175, fnOb "unread_place" (stAt "unread_place") "scheme.verify" 371 174),
  (179, { cls := .type "code", data := .fields #[.str "head_word" 467, .str "head_word" 468, .str "/claim/cut.py" 469, .int 123 0, .int 2 0, .int 0 0, .int 0 0, .int 3 0, .ref 176, .bool true, .int 181 0, .ref 177, .none, .none, .none, .ref 178, .int 470 0, .int 123 0, .str "/claim/cut.py" 471] }),
  (180, fnOb "head_word" (stAt "head_word") "scheme.verify" 371 179),
  (186, { cls := .type "code", data := .fields #[.str "procedure_error" 473, .str "procedure_error" 474, .str "/claim/cut.py" 475, .int 135 0, .int 3 0, .int 0 0, .int 0 0, .int 3 0, .ref 181, .bool true, .int 181 0, .ref 182, .none, .ref 183, .ref 184, .ref 185, .int 484 0, .int 135 0, .str "/claim/cut.py" 485] }),
  (187, fnOb "procedure_error" (stAt "procedure_error") "scheme.verify" 371 186),
  (193, { cls := .type "code", data := .fields #[.str "start_word" 487, .str "start_word" 488, .str "/claim/cut.py" 489, .int 149 0, .int 1 0, .int 0 0, .int 0 0, .int 3 0, .ref 188, .bool true, .int 181 0, .ref 189, .none, .ref 190, .ref 191, .ref 192, .int 493 0, .int 149 0, .str "/claim/cut.py" 494] }),
  (194, fnOb "start_word" (stAt "start_word") "scheme.verify" 371 193),
  (200, { cls := .type "code", data := .fields #[.str "unit_error" 496, .str "unit_error" 497, .str "/claim/cut.py" 498, .int 155 0, .int 2 0, .int 0 0, .int 0 0, .int 3 0, .ref 195, .bool true, .int 181 0, .ref 196, .none, .ref 197, .ref 198, .ref 199, .int 504 0, .int 155 0, .str "/claim/cut.py" 505] }),
  (201, fnOb "unit_error" (stAt "unit_error") "scheme.verify" 371 200),
  (205, { cls := .type "code", data := .fields #[.str "_law_pot" 509, .str "_law_pot" 510, .str "/claim/cut.py" 511, .int 165 0, .int 1 0, .int 0 0, .int 0 0, .int 3 0, .ref 202, .bool true, .int 181 0, .ref 203, .none, .none, .none, .ref 204, .int 512 0, .int 165 0, .str "/claim/cut.py" 513] }),
  (206, fnOb "_law_pot" (stAt "_law_pot") "law_nz0403_01" 507 205),
  (212, { cls := .type "code", data := .fields #[.str "_law_dip" 515, .str "_law_dip" 516, .str "/claim/cut.py" 517, .int 167 0, .int 2 0, .int 0 0, .int 0 0, .int 3 0, .ref 207, .bool true, .int 181 0, .ref 208, .none, .ref 209, .ref 210, .ref 211, .int 521 0, .int 167 0, .str "/claim/cut.py" 522] }),
  (213, fnOb "_law_dip" (stAt "_law_dip") "law_nz0403_01" 507 212),
  (219, { cls := .type "code", data := .fields #[.str "_law_body" 524, .str "_law_body" 525, .str "/claim/cut.py" 526, .int 174 0, .int 1 0, .int 0 0, .int 0 0, .int 3 0, .ref 214, .bool true, .int 181 0, .ref 215, .none, .ref 216, .ref 217, .ref 218, .int 529 0, .int 174 0, .str "/claim/cut.py" 530] }),
  (220, fnOb "_law_body" (stAt "_law_body") "law_nz0403_01" 507 219),
  (224, { cls := .type "code", data := .fields #[.str "_law_led" 532, .str "_law_led" 533, .str "/claim/cut.py" 534, .int 179 0, .int 2 0, .int 0 0, .int 0 0, .int 3 0, .ref 221, .bool true, .int 181 0, .ref 222, .none, .none, .none, .ref 223, .int 535 0, .int 179 0, .str "/claim/cut.py" 536] }),
  (225, fnOb "_law_led" (stAt "_law_led") "law_nz0403_01" 507 224),
  (229, { cls := .type "code", data := .fields #[.str "_law_unit" 538, .str "_law_unit" 539, .str "/claim/cut.py" 540, .int 192 0, .int 1 0, .int 0 0, .int 0 0, .int 3 0, .ref 226, .bool true, .int 181 0, .ref 227, .none, .none, .none, .ref 228, .int 541 0, .int 192 0, .str "/claim/cut.py" 542] }),
  (230, fnOb "_law_unit" (stAt "_law_unit") "law_nz0403_01" 507 229),
  (236, { cls := .type "code", data := .fields #[.str "_law_put" 544, .str "_law_put" 545, .str "/claim/cut.py" 546, .int 200 0, .int 4 0, .int 0 0, .int 0 0, .int 3 0, .ref 231, .bool true, .int 181 0, .ref 232, .none, .ref 233, .ref 234, .ref 235, .int 552 0, .int 200 0, .str "/claim/cut.py" 553] }),
  (237, fnOb "_law_put" (stAt "_law_put") "law_nz0403_01" 507 236),
  (243, { cls := .type "code", data := .fields #[.str "_law_headed" 555, .str "_law_headed" 556, .str "/claim/cut.py" 557, .int 204 0, .int 3 0, .int 0 0, .int 0 0, .int 3 0, .ref 238, .bool true, .int 181 0, .ref 239, .none, .ref 240, .ref 241, .ref 242, .int 562 0, .int 204 0, .str "/claim/cut.py" 563] }),
  (244, fnOb "_law_headed" (stAt "_law_headed") "law_nz0403_01" 507 243),
  (250, { cls := .type "code", data := .fields #[.str "_law_operand" 565, .str "_law_operand" 566, .str "/claim/cut.py" 567, .int 220 0, .int 4 0, .int 0 0, .int 0 0, .int 3 0, .ref 245, .bool true, .int 181 0, .ref 246, .none, .ref 247, .ref 248, .ref 249, .int 576 0, .int 220 0, .str "/claim/cut.py" 577] }),
  (251, fnOb "_law_operand" (stAt "_law_operand") "law_nz0403_01" 507 250),
  (257, { cls := .type "code", data := .fields #[.str "_law_early" 579, .str "_law_early" 580, .str "/claim/cut.py" 581, .int 229 0, .int 4 0, .int 0 0, .int 0 0, .int 3 0, .ref 252, .bool true, .int 181 0, .ref 253, .none, .ref 254, .ref 255, .ref 256, .int 586 0, .int 229 0, .str "/claim/cut.py" 587] }),
  (258, fnOb "_law_early" (stAt "_law_early") "law_nz0403_01" 507 257),
  (262, { cls := .type "code", data := .fields #[.str "law" 589, .str "law" 590, .str "/claim/cut.py" 591, .int 236 0, .int 1 0, .int 0 0, .int 0 0, .int 3 0, .ref 259, .bool true, .int 181 0, .ref 260, .none, .none, .none, .ref 261, .int 592 0, .int 236 0, .str "/claim/cut.py" 593] }),
  (263, fnOb "law" (stAt "law") "law_nz0403_01" 507 262)]
noncomputable def hpAs : List Addr := [3, 15, 16, 17, 18, 19, 20, 21, 22, 23, 24, 25, 26, 27, 28, 29, 42, 43, 45, 46, 63, 64, 66, 67, 77, 78, 84, 85, 89, 90, 94, 95, 101, 102, 108, 109, 115, 116, 122, 123, 127, 128, 134, 135, 139, 140, 146, 147, 153, 154, 160, 161, 167, 168, 174, 175, 179, 180, 186, 187, 193, 194, 200, 201, 205, 206, 212, 213, 219, 220, 224, 225, 229, 230, 236, 237, 243, 244, 250, 251, 257, 258, 262, 263]
theorem hp_as : ∀ P, hpAs = (hp P).map (·.1) := fun _ => by kernel_rfl
end Mine
/-! part HH -/
set_option maxHeartbeats 8000000
namespace Mine
open PySem PySem.W PyProof.Rows

noncomputable def pw0 : Program := PySem.Challenge.rw_nz0403_01.row.toRowW.prog
noncomputable def q0 : Program := { pw0 with main := { pw0.main with body := pw0.main.body.drop 36 } }
noncomputable def boundBy : Stmt → List Str
  | .FunctionDef n .. | .ClassDef n .. => [n]
  | .Assign [.Name n _] _ _ => [n]
  | _ => []
noncomputable def loose0 : List Str := (pw0.main.body.take 36).flatMap boundBy
theorem fr_open : opening pw0 = plainProg pw0.main.scope.names := by kernel_rfl
theorem fr_boot : ∀ w : World, (fencedOpening treeTable pw0 w 3000).map (fun s => (s.heap, s.gens, s.drawn, s.toks)) = some (boot_heap w.params, Array.mk [], boot_drawn, boot_toks) :=
  boot_open (p := pw0) (N := 3000) fr_open (by decide) (fun s => by kernel_rfl)
theorem left_once {p q : Program} {loose : List Str} {Xt : Shared → Bool} {α : Type} {Yf : Shared → α} {Ya : World → α} {N : Nat} {g0 : Bool} {H₀ : Params → Heap} {gs₀ : Array GenState} {d₀ : Drawn} {k₀ : Nat} {m₀ : Nat} {ann : Option Value} {M : Nat}
    (open_ : ∀ w : World, (fencedOpening treeTable p w N).map (fun s => (s.heap, s.gens, s.drawn, s.toks)) = some (H₀ w.params, gs₀, d₀, k₀))
    (size : ∀ w : World, ((H₀ w.params).isNs mainGlobals && gs₀.size == 0, (H₀ w.params).objs.size, (H₀ w.params).nsMap mainGlobals "__annotations__") = (true, m₀, ann)) (le : Nat.ble M N = true)
    (h : ∀ (w : World) (os : OsState), (topRun treeTable p w m₀ ann M ⟨H₀ w.params, gs₀, d₀, k₀, os⟩ (topStub p)).map (fun s =>
      ((staticsOk (importedModules p.main.body) (H₀ w.params) s.heap && namesBound p s.heap && gensDone s && laidKept (H₀ w.params) s.heap), openSeen q loose (importedModules p.main.body) Xt g0 s, Yf s)) = some (true, openGood q loose, Ya w)) :
    LeftO p q loose Xt Yf Ya N g0 := fun w => by
  obtain ⟨⟨h0, gs, d, k, os⟩, e, e'⟩ := Option.map_eq_some_iff.mp (open_ w)
  obtain ⟨rfl, rfl, rfl, rfl⟩ : h0 = H₀ w.params ∧ gs = gs₀ ∧ d = d₀ ∧ k = k₀ := by simpa using e'
  obtain ⟨z1, z2, z3⟩ : _ ∧ _ ∧ _ := by simpa only [Prod.mk.injEq] using size w
  obtain ⟨s, hr, hs⟩ := Option.map_eq_some_iff.mp (h w os)
  obtain ⟨l1, l2, l3⟩ : _ ∧ _ ∧ _ := by simpa only [Prod.mk.injEq] using hs
  have r := topRun_mono (N - M) _ _ _ _ hr
  rw [show M + (N - M) = N by have := Nat.le_of_ble_eq_true le; omega] at r
  have t : topFrom treeTable p w N ⟨H₀ w.params, gs, d, k, os⟩ = some s := by
    unfold topFrom
    dsimp only
    rw [z1, z2, z3, r]
    show (match staticsOk (importedModules p.main.body) (H₀ w.params) s.heap && namesBound p s.heap && gensDone s && laidKept (H₀ w.params) s.heap with | true => _ | false => _) = _
    rw [l1]
  unfold openEnds
  rw [e]
  show (topFrom treeTable p w N _).map _ = _
  rw [t]
  exact congrArg some (Prod.ext l2 l3)
theorem fr_size : ∀ w : World, ((boot_heap w.params).isNs mainGlobals && (Array.mk ([] : List GenState)).size == 0, (boot_heap w.params).objs.size, (boot_heap w.params).nsMap mainGlobals "__annotations__") = (true, 11, some (.ref 6)) := fun w => by kernel_rfl
end Mine
/-! part HI -/
set_option maxHeartbeats 8000000
namespace Mine
open PySem PySem.W PyProof.Rows
noncomputable def Xt0 : Shared → Bool := fun s => xlAt q0 [] s && recOk (RowW.records PySem.Challenge.rw_nz0403_01.row.toRowW) s
noncomputable def hk0 : Hook := kHook hp hpAs hp_as
noncomputable abbrev Seen (w : World) (os : OsState) : Prop := (topRun treeTable pw0 w 11 (some (.ref 6)) 1700 ⟨boot_heap w.params, Array.mk [], boot_drawn, boot_toks, os⟩ (topStub pw0)).map (fun s =>
      ((staticsOk (importedModules pw0.main.body) (boot_heap w.params) s.heap && namesBound pw0 s.heap && gensDone s && laidKept (boot_heap w.params) s.heap), openSeen q0 loose0 (importedModules pw0.main.body) Xt0 true s, hk0.obs s)) =
        some (true, openGood q0 loose0, hk0.val w)
theorem seen_f (w : World) (os : OsState) : Seen (w.withFollow "special-get-raises" false) os := by
  unfold Seen
  rw [PySem.W.Fast.te14082659384304107361, PySem.W.Fast.te14364793385576792824, PySem.W.Fast.te4187177175401517315]
  kernel_rfl
theorem seen_t (w : World) (os : OsState) : Seen (w.withFollow "special-get-raises" true) os := by
  unfold Seen
  rw [PySem.W.Fast.te14082659384304107361, PySem.W.Fast.te14364793385576792824, PySem.W.Fast.te4187177175401517315]
  kernel_rfl
theorem left0 : LeftO pw0 q0 loose0 Xt0 hk0.obs hk0.val 3000 := left_once fr_boot fr_size (M := 1700) (by decide) fun w => byRow2 "special-get-raises" (P := fun w => ∀ os, Seen w os) seen_f seen_t w
theorem said0 : PySem.Challenge.rw_nz0403_01.wellSaid = true := by
  rw [PySem.W.Fast.te9446332074065402090]
  kernel_rfl
end Mine
/-! part NL -/
namespace Mine
open PySem PySem.W PyProof.Rows

/-! facts of the laid heap -/
noncomputable def faL : List (Nat × Addr) := [(11, 43), (17, 64), (19, 78), (22, 85), (31, 90), (33, 95), (35, 102), (38, 109), (40, 116), (42, 123), (44, 128), (46, 135), (47, 140), (53, 147), (56, 154), (57, 161), (61, 168), (64, 175), (68, 180), (74, 187), (76, 194), (77, 201), (79, 206), (82, 213), (94, 220), (99, 225), (102, 230), (104, 237), (106, 244), (109, 251), (110, 258), (114, 263)]
noncomputable def fa0 (k : Nat) : Addr := (faL.lookup k).getD 0
noncomputable def cls0 (k : Nat) : Addr := if k = 17 then 67 else 46
theorem ns_some_of {K : Frag} {h : Heap} {N : Addr} {mg : Str → Option Value} {n : Str} {v : Value} (X : K.In h) (G : h.Ns N mg) (e : nsIn K N n = some (some v)) : mg n = some v := by
  obtain ⟨o, es, ep, ho, hd, _, hf⟩ := G
  unfold nsIn at e
  split at e
  · rename_i c d es' n' sl q
    have := X _ _ q
    rw [ho] at this
    cases this
    cases hd
    split at e
    · rename_i en he
      cases e
      rw [← hf]
      unfold nsFind findBy
      rw [← Array.find?_toList, he]
      rfl
    · split at e <;> cases e
  · cases e
noncomputable def refTo : Option (Option Value) → Addr → Bool
  | some (some (.ref b)), a => a == b
  | _, _ => false
theorem refTo_is {x : Option (Option Value)} {a : Addr} (h : refTo x a = true) : x = some (some (.ref a)) := by
  unfold refTo at h
  split at h
  · rw [beq_iff_eq.mp h]
  · cases h
noncomputable def fdIn (K : Frag) (a : Addr) : FuncData := match K.lookup a with
  | some ⟨_, _, .func fd, _⟩ => fd
  | _ => { name := "", qualname := "", params := { posonlyargs := [], args := [], vararg := none, kwonlyargs := [], kw_defaults := [], kwarg := none, defaults := [] }, body := .stmts [], scope := { kind := .function, names := [], isGenerator := false, isCoroutine := false }, globals := 0, closure := [], defaults := .none, kwdefaults := .none, pyModule := .none, code := .none }
noncomputable def isFunc (K : Frag) (a : Addr) : Bool := match K.lookup a with
  | some ⟨_, _, .func _, _⟩ => true
  | _ => false
noncomputable def bodyOf (fd : FuncData) : Option (List Stmt) := match fd.body with
  | .stmts b => some b
  | _ => none
noncomputable def codeIn (K : Frag) (fd : FuncData) : Bool := match fd.code with
  | .ref c => (match K.lookup c with
    | some ⟨_, _, .fields vs, _⟩ => (match (vs[1]? : Option Value) with
      | some (.str q _) => q == fd.qualname
      | _ => false)
    | _ => false)
  | _ => false
noncomputable def fnIn (K : Frag) (a : Addr) (ps : List Nat) (b : List S) : Bool := isFunc K a && (match bodyOf (fdIn K a) with
    | some sts => chkSs (fdIn K a).scope b sts
    | none => false) && (fdIn K a).closure.isEmpty && (fdIn K a).globals == mainGlobals && (fdIn K a).builtins == builtinsNs && !(fdIn K a).scope.isCoroutine && !(fdIn K a).scope.isGenerator && (fdIn K a).scope.kind == .function &&
    (fdIn K a).scope.names.all (fun x => x.2 != .free) && ps.all (stV (fdIn K a).scope) && nodupN ps && codeIn K (fdIn K a)
theorem fnAt_of {K : Frag} {h : Heap} {a : Addr} {ps : List Nat} {b : List S} (X : K.In h) (e : fnIn K a ps b = true) (hb : ∀ vals : List Value, vals.length = ps.length → bindArgs (fdIn K a) ⟨vals, []⟩ = pure (bindsOf ps vals)) : FnAt h a ps b := by
  simp only [fnIn, Bool.and_eq_true, beq_iff_eq, Bool.not_eq_true', List.all_eq_true, bne_iff_ne, List.isEmpty_iff] at e
  obtain ⟨⟨⟨⟨⟨⟨⟨⟨⟨⟨⟨h1, h2⟩, h3⟩, h4⟩, h5⟩, h6⟩, h7⟩, h8⟩, h9⟩, h10⟩, h11⟩, h12⟩ := e
  unfold isFunc at h1
  split at h1
  · rename_i c d fd sl q
    have hfd : fdIn K a = fd := by unfold fdIn; rw [q]
    rw [hfd] at h2 h3 h4 h5 h6 h7 h8 h9 h10 h12 hb
    cases hb' : bodyOf fd with
    | none => rw [hb'] at h2; cases h2
    | some sts =>
      rw [hb'] at h2
      refine ⟨⟨_, fd, sts, X _ _ q, rfl, ?_, ⟨?_, h3, h4, h5, h6, h7, h8, fun x z => ?_, fun k hk => ?_, h11, hb⟩, h2⟩⟩
      · unfold codeIn at h12
        split at h12
        · rename_i c' hc
          split at h12
          · rename_i q'
            split at h12
            · rename_i hv
              exact ⟨c', _, _, _, hc, X _ _ q', rfl, by rw [hv, beq_iff_eq.mp h12]⟩
            · cases h12
          · cases h12
        · cases h12
      · unfold bodyOf at hb'
        split at hb'
        · rename_i z; cases hb'; exact z
        · cases hb'
      · exact h9 _ (lookup_mem z) rfl
      · have := h10 k hk
        simp only [stV, Bool.and_eq_true, Bool.or_eq_true, beq_iff_eq, decide_eq_true_eq] at this
        exact this
  · cases h1
noncomputable def noneAll (K : Frag) (C : Addr) : Bool := (List.range wmax).all fun k => match findIn K (.ref C) (Wn k) with
  | some none => true
  | _ => false
theorem noneAll_is {K : Frag} {C : Addr} (h : noneAll K C = true) (k : Nat) (hk : k < wmax) : findIn K (.ref C) (Wn k) = some none := by
  have := List.all_eq_true.mp h k (List.mem_range.mpr hk)
  split at this
  · assumption
  · cases this
theorem wellInts {prog : Program} {w : World} {P : Params} {h : Heap} {ad : Ad} {hf : Fz} : ∀ {ns : List Int} {vs : List Value}, WellAll P h vs (ofPys (ns.map .int)) → VRels prog w ad hf (ns.map .int) vs
  | [], vs, x => by cases x; exact VRels.nil
  | n :: ns, vs, x => by
    cases x with
    | cons a r =>
      cases a
      exact VRels.cons (by rw [VRel]; exact ⟨_, rfl⟩) (wellInts r)

theorem of_lenS {α : Type} {Q : List α → Prop} {n : Nat} (h : ∀ a l, l.length = n → Q (a :: l)) : ∀ l : List α, l.length = n + 1 → Q l
  | [], e => by cases e
  | a :: l, e => h a l (Nat.succ.inj e)
theorem of_len0 {α : Type} {Q : List α → Prop} (h : Q []) : ∀ l : List α, l.length = 0 → Q l
  | [], _ => h
  | _ :: _, e => by cases e
theorem of_len1 {α : Type} {Q : List α → Prop} (h : ∀ v0, Q [v0]) : ∀ l : List α, l.length = 1 → Q l := of_lenS fun v => of_len0 (Q := fun l => Q (v :: l)) (h v)
theorem of_len2 {α : Type} {Q : List α → Prop} (h : ∀ v0 v1, Q [v0, v1]) : ∀ l : List α, l.length = 2 → Q l := of_lenS fun v => of_len1 (Q := fun l => Q (v :: l)) (h v)
theorem of_len3 {α : Type} {Q : List α → Prop} (h : ∀ v0 v1 v2, Q [v0, v1, v2]) : ∀ l : List α, l.length = 3 → Q l := of_lenS fun v => of_len2 (Q := fun l => Q (v :: l)) (h v)
theorem of_len4 {α : Type} {Q : List α → Prop} (h : ∀ v0 v1 v2 v3, Q [v0, v1, v2, v3]) : ∀ l : List α, l.length = 4 → Q l := of_lenS fun v => of_len3 (Q := fun l => Q (v :: l)) (h v)
theorem of_len5 {α : Type} {Q : List α → Prop} (h : ∀ v0 v1 v2 v3 v4, Q [v0, v1, v2, v3, v4]) : ∀ l : List α, l.length = 5 → Q l := of_lenS fun v => of_len4 (Q := fun l => Q (v :: l)) (h v)
theorem of_len6 {α : Type} {Q : List α → Prop} (h : ∀ v0 v1 v2 v3 v4 v5, Q [v0, v1, v2, v3, v4, v5]) : ∀ l : List α, l.length = 6 → Q l := of_lenS fun v => of_len5 (Q := fun l => Q (v :: l)) (h v)
theorem of_len7 {α : Type} {Q : List α → Prop} (h : ∀ v0 v1 v2 v3 v4 v5 v6, Q [v0, v1, v2, v3, v4, v5, v6]) : ∀ l : List α, l.length = 7 → Q l := of_lenS fun v => of_len6 (Q := fun l => Q (v :: l)) (h v)
theorem of_len8 {α : Type} {Q : List α → Prop} (h : ∀ v0 v1 v2 v3 v4 v5 v6 v7, Q [v0, v1, v2, v3, v4, v5, v6, v7]) : ∀ l : List α, l.length = 8 → Q l := of_lenS fun v => of_len7 (Q := fun l => Q (v :: l)) (h v)
theorem of_len9 {α : Type} {Q : List α → Prop} (h : ∀ v0 v1 v2 v3 v4 v5 v6 v7 v8, Q [v0, v1, v2, v3, v4, v5, v6, v7, v8]) : ∀ l : List α, l.length = 9 → Q l := of_lenS fun v => of_len8 (Q := fun l => Q (v :: l)) (h v)
section
variable {P : Params}
theorem fi_Procedure : fnIn (hp P) 43 p_Procedure b_Procedure = true := by kernel_rfl
theorem bi_Procedure : ∀ vals : List Value, vals.length = p_Procedure.length → bindArgs (fdIn (hp P) 43) ⟨vals, []⟩ = pure (bindsOf p_Procedure vals) := of_len9 fun v0 v1 v2 v3 v4 v5 v6 v7 v8 => by kernel_rfl
theorem fi_Unit : fnIn (hp P) 64 p_Unit b_Unit = true := by kernel_rfl
theorem bi_Unit : ∀ vals : List Value, vals.length = p_Unit.length → bindArgs (fdIn (hp P) 64) ⟨vals, []⟩ = pure (bindsOf p_Unit vals) := of_len5 fun v0 v1 v2 v3 v4 => by kernel_rfl
theorem fi_entry_registers : fnIn (hp P) 78 p_entry_registers b_entry_registers = true := by kernel_rfl
theorem bi_entry_registers : ∀ vals : List Value, vals.length = p_entry_registers.length → bindArgs (fdIn (hp P) 78) ⟨vals, []⟩ = pure (bindsOf p_entry_registers vals) := of_len1 fun v0 => by kernel_rfl
theorem fi_operand_pairs : fnIn (hp P) 85 p_operand_pairs b_operand_pairs = true := by kernel_rfl
theorem bi_operand_pairs : ∀ vals : List Value, vals.length = p_operand_pairs.length → bindArgs (fdIn (hp P) 85) ⟨vals, []⟩ = pure (bindsOf p_operand_pairs vals) := of_len1 fun v0 => by kernel_rfl
theorem fi_registers_read : fnIn (hp P) 90 p_registers_read b_registers_read = true := by kernel_rfl
theorem bi_registers_read : ∀ vals : List Value, vals.length = p_registers_read.length → bindArgs (fdIn (hp P) 90) ⟨vals, []⟩ = pure (bindsOf p_registers_read vals) := of_len1 fun v0 => by kernel_rfl
theorem fi_registers_written : fnIn (hp P) 95 p_registers_written b_registers_written = true := by kernel_rfl
theorem bi_registers_written : ∀ vals : List Value, vals.length = p_registers_written.length → bindArgs (fdIn (hp P) 95) ⟨vals, []⟩ = pure (bindsOf p_registers_written vals) := of_len1 fun v0 => by kernel_rfl
theorem fi_label_of : fnIn (hp P) 102 p_label_of b_label_of = true := by kernel_rfl
theorem bi_label_of : ∀ vals : List Value, vals.length = p_label_of.length → bindArgs (fdIn (hp P) 102) ⟨vals, []⟩ = pure (bindsOf p_label_of vals) := of_len1 fun v0 => by kernel_rfl
theorem fi_places_behind : fnIn (hp P) 109 p_places_behind b_places_behind = true := by kernel_rfl
theorem bi_places_behind : ∀ vals : List Value, vals.length = p_places_behind.length → bindArgs (fdIn (hp P) 109) ⟨vals, []⟩ = pure (bindsOf p_places_behind vals) := of_len2 fun v0 v1 => by kernel_rfl
theorem fi_is_count : fnIn (hp P) 116 p_is_count b_is_count = true := by kernel_rfl
theorem bi_is_count : ∀ vals : List Value, vals.length = p_is_count.length → bindArgs (fdIn (hp P) 116) ⟨vals, []⟩ = pure (bindsOf p_is_count vals) := of_len1 fun v0 => by kernel_rfl
theorem fi_is_below : fnIn (hp P) 123 p_is_below b_is_below = true := by kernel_rfl
theorem bi_is_below : ∀ vals : List Value, vals.length = p_is_below.length → bindArgs (fdIn (hp P) 123) ⟨vals, []⟩ = pure (bindsOf p_is_below vals) := of_len2 fun v0 v1 => by kernel_rfl
theorem fi_are_registers : fnIn (hp P) 128 p_are_registers b_are_registers = true := by kernel_rfl
theorem bi_are_registers : ∀ vals : List Value, vals.length = p_are_registers.length → bindArgs (fdIn (hp P) 128) ⟨vals, []⟩ = pure (bindsOf p_are_registers vals) := of_len2 fun v0 v1 => by kernel_rfl
theorem fi_is_closure_row : fnIn (hp P) 135 p_is_closure_row b_is_closure_row = true := by kernel_rfl
theorem bi_is_closure_row : ∀ vals : List Value, vals.length = p_is_closure_row.length → bindArgs (fdIn (hp P) 135) ⟨vals, []⟩ = pure (bindsOf p_is_closure_row vals) := of_len3 fun v0 v1 v2 => by kernel_rfl
theorem fi_are_closure_rows : fnIn (hp P) 140 p_are_closure_rows b_are_closure_rows = true := by kernel_rfl
theorem bi_are_closure_rows : ∀ vals : List Value, vals.length = p_are_closure_rows.length → bindArgs (fdIn (hp P) 140) ⟨vals, []⟩ = pure (bindsOf p_are_closure_rows vals) := of_len3 fun v0 v1 v2 => by kernel_rfl
theorem fi_operand_fits : fnIn (hp P) 147 p_operand_fits b_operand_fits = true := by kernel_rfl
theorem bi_operand_fits : ∀ vals : List Value, vals.length = p_operand_fits.length → bindArgs (fdIn (hp P) 147) ⟨vals, []⟩ = pure (bindsOf p_operand_fits vals) := of_len5 fun v0 v1 v2 v3 v4 => by kernel_rfl
theorem fi_instruction_word : fnIn (hp P) 154 p_instruction_word b_instruction_word = true := by kernel_rfl
theorem bi_instruction_word : ∀ vals : List Value, vals.length = p_instruction_word.length → bindArgs (fdIn (hp P) 154) ⟨vals, []⟩ = pure (bindsOf p_instruction_word vals) := of_len4 fun v0 v1 v2 v3 => by kernel_rfl
theorem fi_mask_of : fnIn (hp P) 161 p_mask_of b_mask_of = true := by kernel_rfl
theorem bi_mask_of : ∀ vals : List Value, vals.length = p_mask_of.length → bindArgs (fdIn (hp P) 161) ⟨vals, []⟩ = pure (bindsOf p_mask_of vals) := of_len1 fun v0 => by kernel_rfl
theorem fi_written_ahead : fnIn (hp P) 168 p_written_ahead b_written_ahead = true := by kernel_rfl
theorem bi_written_ahead : ∀ vals : List Value, vals.length = p_written_ahead.length → bindArgs (fdIn (hp P) 168) ⟨vals, []⟩ = pure (bindsOf p_written_ahead vals) := of_len1 fun v0 => by kernel_rfl
theorem fi_unread_place : fnIn (hp P) 175 p_unread_place b_unread_place = true := by kernel_rfl
theorem bi_unread_place : ∀ vals : List Value, vals.length = p_unread_place.length → bindArgs (fdIn (hp P) 175) ⟨vals, []⟩ = pure (bindsOf p_unread_place vals) := of_len1 fun v0 => by kernel_rfl
theorem fi_head_word : fnIn (hp P) 180 p_head_word b_head_word = true := by kernel_rfl
theorem bi_head_word : ∀ vals : List Value, vals.length = p_head_word.length → bindArgs (fdIn (hp P) 180) ⟨vals, []⟩ = pure (bindsOf p_head_word vals) := of_len2 fun v0 v1 => by kernel_rfl
theorem fi_procedure_error : fnIn (hp P) 187 p_procedure_error b_procedure_error = true := by kernel_rfl
theorem bi_procedure_error : ∀ vals : List Value, vals.length = p_procedure_error.length → bindArgs (fdIn (hp P) 187) ⟨vals, []⟩ = pure (bindsOf p_procedure_error vals) := of_len3 fun v0 v1 v2 => by kernel_rfl
theorem fi_start_word : fnIn (hp P) 194 p_start_word b_start_word = true := by kernel_rfl
theorem bi_start_word : ∀ vals : List Value, vals.length = p_start_word.length → bindArgs (fdIn (hp P) 194) ⟨vals, []⟩ = pure (bindsOf p_start_word vals) := of_len1 fun v0 => by kernel_rfl
theorem fi_unit_error : fnIn (hp P) 201 p_unit_error b_unit_error = true := by kernel_rfl
theorem bi_unit_error : ∀ vals : List Value, vals.length = p_unit_error.length → bindArgs (fdIn (hp P) 201) ⟨vals, []⟩ = pure (bindsOf p_unit_error vals) := of_len2 fun v0 v1 => by kernel_rfl
theorem fi_law_pot : fnIn (hp P) 206 p_law_pot b_law_pot = true := by kernel_rfl
theorem bi_law_pot : ∀ vals : List Value, vals.length = p_law_pot.length → bindArgs (fdIn (hp P) 206) ⟨vals, []⟩ = pure (bindsOf p_law_pot vals) := of_len1 fun v0 => by kernel_rfl
theorem fi_law_dip : fnIn (hp P) 213 p_law_dip b_law_dip = true := by kernel_rfl
theorem bi_law_dip : ∀ vals : List Value, vals.length = p_law_dip.length → bindArgs (fdIn (hp P) 213) ⟨vals, []⟩ = pure (bindsOf p_law_dip vals) := of_len2 fun v0 v1 => by kernel_rfl
theorem fi_law_body : fnIn (hp P) 220 p_law_body b_law_body = true := by kernel_rfl
theorem bi_law_body : ∀ vals : List Value, vals.length = p_law_body.length → bindArgs (fdIn (hp P) 220) ⟨vals, []⟩ = pure (bindsOf p_law_body vals) := of_len1 fun v0 => by kernel_rfl
theorem fi_law_led : fnIn (hp P) 225 p_law_led b_law_led = true := by kernel_rfl
theorem bi_law_led : ∀ vals : List Value, vals.length = p_law_led.length → bindArgs (fdIn (hp P) 225) ⟨vals, []⟩ = pure (bindsOf p_law_led vals) := of_len2 fun v0 v1 => by kernel_rfl
theorem fi_law_unit : fnIn (hp P) 230 p_law_unit b_law_unit = true := by kernel_rfl
theorem bi_law_unit : ∀ vals : List Value, vals.length = p_law_unit.length → bindArgs (fdIn (hp P) 230) ⟨vals, []⟩ = pure (bindsOf p_law_unit vals) := of_len1 fun v0 => by kernel_rfl
theorem fi_law_put : fnIn (hp P) 237 p_law_put b_law_put = true := by kernel_rfl
theorem bi_law_put : ∀ vals : List Value, vals.length = p_law_put.length → bindArgs (fdIn (hp P) 237) ⟨vals, []⟩ = pure (bindsOf p_law_put vals) := of_len4 fun v0 v1 v2 v3 => by kernel_rfl
theorem fi_law_headed : fnIn (hp P) 244 p_law_headed b_law_headed = true := by kernel_rfl
theorem bi_law_headed : ∀ vals : List Value, vals.length = p_law_headed.length → bindArgs (fdIn (hp P) 244) ⟨vals, []⟩ = pure (bindsOf p_law_headed vals) := of_len3 fun v0 v1 v2 => by kernel_rfl
theorem fi_law_operand : fnIn (hp P) 251 p_law_operand b_law_operand = true := by kernel_rfl
theorem bi_law_operand : ∀ vals : List Value, vals.length = p_law_operand.length → bindArgs (fdIn (hp P) 251) ⟨vals, []⟩ = pure (bindsOf p_law_operand vals) := of_len4 fun v0 v1 v2 v3 => by kernel_rfl
theorem fi_law_early : fnIn (hp P) 258 p_law_early b_law_early = true := by kernel_rfl
theorem bi_law_early : ∀ vals : List Value, vals.length = p_law_early.length → bindArgs (fdIn (hp P) 258) ⟨vals, []⟩ = pure (bindsOf p_law_early vals) := of_len4 fun v0 v1 v2 v3 => by kernel_rfl
theorem fi_law : fnIn (hp P) 263 p_law b_law = true := by kernel_rfl
theorem bi_law : ∀ vals : List Value, vals.length = p_law.length → bindArgs (fdIn (hp P) 263) ⟨vals, []⟩ = pure (bindsOf p_law vals) := of_len1 fun v0 => by kernel_rfl
end
theorem all_cons {α : Type} {Q : α → Prop} {a : α} {l : List α} (h : Q a) (r : ∀ x ∈ l, Q x) : ∀ x ∈ a :: l, Q x := fun x hx => by
  rcases List.mem_cons.mp hx with rfl | hx
  · exact h
  · exact r x hx
noncomputable abbrev FnQ (h : Heap) (t : Nat × List Nat × List S) : Prop := FnAt h (fa0 t.1) t.2.1 t.2.2
theorem all_fns {P : Params} {h : Heap} (X : (hp P).In h) : ∀ t ∈ fns, FnQ h t := all_cons (fnAt_of X fi_Procedure bi_Procedure) (
    all_cons (fnAt_of X fi_Unit bi_Unit) (
    all_cons (fnAt_of X fi_entry_registers bi_entry_registers) (
    all_cons (fnAt_of X fi_operand_pairs bi_operand_pairs) (
    all_cons (fnAt_of X fi_registers_read bi_registers_read) (
    all_cons (fnAt_of X fi_registers_written bi_registers_written) (
    all_cons (fnAt_of X fi_label_of bi_label_of) (
    all_cons (fnAt_of X fi_places_behind bi_places_behind) (
    all_cons (fnAt_of X fi_is_count bi_is_count) (
    all_cons (fnAt_of X fi_is_below bi_is_below) (
    all_cons (fnAt_of X fi_are_registers bi_are_registers) (
    all_cons (fnAt_of X fi_is_closure_row bi_is_closure_row) (
    all_cons (fnAt_of X fi_are_closure_rows bi_are_closure_rows) (
    all_cons (fnAt_of X fi_operand_fits bi_operand_fits) (
    all_cons (fnAt_of X fi_instruction_word bi_instruction_word) (
    all_cons (fnAt_of X fi_mask_of bi_mask_of) (
    all_cons (fnAt_of X fi_written_ahead bi_written_ahead) (
    all_cons (fnAt_of X fi_unread_place bi_unread_place) (
    all_cons (fnAt_of X fi_head_word bi_head_word) (
    all_cons (fnAt_of X fi_procedure_error bi_procedure_error) (
    all_cons (fnAt_of X fi_start_word bi_start_word) (
    all_cons (fnAt_of X fi_unit_error bi_unit_error) (
    all_cons (fnAt_of X fi_law_pot bi_law_pot) (
    all_cons (fnAt_of X fi_law_dip bi_law_dip) (
    all_cons (fnAt_of X fi_law_body bi_law_body) (
    all_cons (fnAt_of X fi_law_led bi_law_led) (
    all_cons (fnAt_of X fi_law_unit bi_law_unit) (
    all_cons (fnAt_of X fi_law_put bi_law_put) (
    all_cons (fnAt_of X fi_law_headed bi_law_headed) (
    all_cons (fnAt_of X fi_law_operand bi_law_operand) (
    all_cons (fnAt_of X fi_law_early bi_law_early) (
    all_cons (fnAt_of X fi_law bi_law) (
    fun _ hm => nomatch hm))))))))))))))))))))))))))))))))
theorem fns_at {P : Params} {h : Heap} (X : (hp P).In h) : ∀ k ps b, (k, ps, b) ∈ fns → FnAt h (fa0 k) ps b := fun k ps b hm => all_fns X (k, ps, b) hm
end Mine
/-! part NN -/
namespace Mine
open PySem PySem.W PyProof.Rows

noncomputable def strsB : List AV → List Value → Bool
  | [], [] => true
  | .str k :: r, .str x _ :: q => decide (k < wmax) && x == Wn k && strsB r q
  | _, _ => false
noncomputable def tupB (K : Frag) (a : AV) (v : Value) : Bool := match a, v with
  | .tup l, .ref x => (match K.lookup x with
    | some ⟨.type T, none, .seq vs _, sl⟩ => T == "tuple" && sl.isEmpty && strsB l vs.toList
    | _ => false)
  | _, _ => false
noncomputable def tupsB (K : Frag) : List AV → List Value → Bool
  | [], [] => true
  | a :: r, v :: q => tupB K a v && tupsB K r q
  | _, _ => false
section
variable {prog : Program} {w : World} {K : Frag} {h : Heap} {ad : Ad} {hf : Fz} {mg mb : Str → Option Value}
theorem strsB_is : ∀ {l : List AV} {vs : List Value}, strsB l vs = true → VRels prog w ad hf l vs
  | [], [], _ => VRels.nil
  | [], _ :: _, e => by simp [strsB] at e
  | a :: r, vs, e => by
    unfold strsB at e
    split at e
    · rename_i h2; cases h2
    · rename_i k r' x t q h1
      cases h1
      simp only [Bool.and_eq_true, decide_eq_true_eq, beq_iff_eq] at e
      obtain ⟨⟨hk, rfl⟩, er⟩ := e
      exact VRels.cons (by rw [VRel]; exact ⟨hk, _, rfl⟩) (strsB_is er)
    · cases e
theorem tupB_is (X : K.In h) (hh : ∀ a o, h.get? a = some o → hf a = some o) {a : AV} {v : Value} (e : tupB K a v = true) : VRel prog w ad hf a v := by
  unfold tupB at e
  split at e
  · rename_i l x
    split at e
    · rename_i T vs n sl q
      simp only [Bool.and_eq_true, beq_iff_eq] at e
      obtain ⟨⟨rfl, hs⟩, er⟩ := e
      have hs : sl = #[] := Array.isEmpty_iff.mp hs
      subst hs
      rw [VRel]
      refine ⟨x, vs.toList, n, rfl, hh _ _ ?_, strsB_is er⟩
      rw [X _ _ q]
    · cases e
  · cases e
theorem tupsB_is (X : K.In h) (hh : ∀ a o, h.get? a = some o → hf a = some o) : ∀ {l : List AV} {vs : List Value}, tupsB K l vs = true → VRels prog w ad hf l vs
  | [], [], _ => VRels.nil
  | [], _ :: _, e => by simp [tupsB] at e
  | _ :: _, [], e => by simp [tupsB] at e
  | a :: r, v :: q, e => by
    rw [tupsB, Bool.and_eq_true] at e
    exact VRels.cons (tupB_is X hh e.1) (tupsB_is X hh e.2)
noncomputable def mkEs (P : Params) : List (Nat × Tok × Addr) → List DictEntry
  | [] => []
  | (n, t, a) :: r => ⟨PyData.keyHash P (Wn n), .str (Wn n) t, .ref a⟩ :: mkEs P r
theorem mkEs_keys : ∀ (l : List (Nat × Tok × Addr)), ∀ e ∈ mkEs w.params l, ∃ k, (PySem.strKind prog w).is k e.key = true ∧ e.hash = (PySem.strKind prog w).hash k
  | [], e, h => by cases h
  | (n, t, a) :: r, e, h => by
    rcases List.mem_cons.mp h with rfl | h
    · exact ⟨Wn n, strKind_is prog w _ _, rfl⟩
    · exact mkEs_keys r e h
theorem mkEs_pairs : ∀ (l : List (Nat × Tok × Addr)), Pairs (PySem.strKind prog w) (mkEs w.params l) ((l.map fun x => Wn x.1).zip (l.map fun x => Value.ref x.2.2))
  | [] => .nil
  | (_, _, _) :: r => .cons (strKind_is prog w _ _) rfl (mkEs_pairs r)
noncomputable def opsL : List (Nat × Tok × Addr) := [(83, 189, 16), (84, 192, 17), (50, 195, 18), (85, 198, 19), (86, 201, 20), (9, 204, 21), (55, 207, 22), (88, 211, 23), (87, 213, 24), (90, 217, 25), (89, 219, 26), (93, 222, 27), (91, 226, 28)]
theorem ops_obj {P : Params} : (hp P).lookup 15 = some { cls := .type "dict", dict := none, data := .dict (mkEs P opsL).toArray 13, slots := #[] } := by kernel_rfl
theorem ops_tups {P : Params} : tupsB (hp P) [.tup [.str 32, .str 49], .tup [.str 32, .str 24], .tup [.str 32, .str 50], .tup [.str 50, .str 24], .tup [.str 50, .str 24], .tup [.str 32, .str 9], .tup [.str 32, .str 18, .str 26], .tup [.str 27], .tup [.str 32, .str 51, .str 26], .tup [.str 34], .tup [.str 24, .str 34], .tup [.str 24, .str 24, .str 26], .tup [.str 24, .str 26]] (opsL.map fun x => .ref x.2.2) = true := by kernel_rfl
theorem ops_rel (X : (hp w.params).In h) (hh : ∀ a o, h.get? a = some o → hf a = some o) : VRel prog w ad hf t_OPERANDS (.ref 15) := by
  unfold t_OPERANDS
  rw [VRel]
  refine ⟨15, _, _, rfl, hh _ _ (X _ _ ops_obj), ⟨by decide, by intro z; cases z⟩, tupsB_is X hh ops_tups, .inr ⟨opsL.map (·.1), rfl, rfl, by decide, _, 13, ⟨rfl, rfl, rfl⟩, rfl, fun e he => mkEs_keys opsL e (by simpa using he), ?_, ?_⟩⟩
  · have := mkEs_pairs (prog := prog) (w := w) opsL
    rw [List.toList_toArray, List.map_map]
    exact this
  · rw [zip_fst (by simp)]
    exact map_Wn_nodup (by decide) (by decide)
theorem ends_rel (X : (hp w.params).In h) (hh : ∀ a o, h.get? a = some o → hf a = some o) : VRel prog w ad hf t_ENDS (.ref 29) := tupB_is X hh (a := t_ENDS) (v := .ref 29) (by kernel_rfl)

noncomputable def fnList : List Nat := [19, 22, 31, 33, 35, 38, 40, 42, 44, 46, 47, 53, 56, 57, 61, 64, 68, 74, 76, 77, 79, 82, 94, 99, 102, 104, 106, 109, 110, 114]
theorem fn_all {P : Params} : (fnList.all fun k => refTo (nsIn (hp P) mainGlobals (Wn k)) (fa0 k) && keepIn (hp P) (.ref (fa0 k))) = true := by kernel_rfl
theorem cls_p {P : Params} : ClsOk (hp P) 46 43 := ⟨fun _ => by kernel_rfl, by kernel_rfl, noneAll_is (by kernel_rfl), by kernel_rfl, by kernel_rfl, by kernel_rfl, by kernel_rfl, by kernel_rfl⟩
theorem cls_u {P : Params} : ClsOk (hp P) 67 64 := ⟨fun _ => by kernel_rfl, by kernel_rfl, noneAll_is (by kernel_rfl), by kernel_rfl, by kernel_rfl, by kernel_rfl, by kernel_rfl, by kernel_rfl⟩
noncomputable def noneIn (K : Frag) (n : Str) : Bool := match nsIn K mainGlobals n with
  | some none => true
  | _ => false
theorem noneIn_is {n : Str} (e : noneIn K n = true) : nsIn K mainGlobals n = some none := by
  unfold noneIn at e
  split at e
  · assumption
  · cases e
theorem bi_all {P : Params} : (biList.all fun x => noneIn (hp P) x.1 && x.1 != ("__name__" : Str)) = true := by kernel_rfl
theorem bi_boot : ∀ n v, (n, v) ∈ biList → bootBuiltins n = some v := by
  intro n v hm
  simp only [biList, List.mem_cons, List.not_mem_nil, or_false, Prod.mk.injEq] at hm
  rcases hm with ⟨rfl, rfl⟩ | ⟨rfl, rfl⟩ | ⟨rfl, rfl⟩ | ⟨rfl, rfl⟩ | ⟨rfl, rfl⟩ | ⟨rfl, rfl⟩ | ⟨rfl, rfl⟩ | ⟨rfl, rfl⟩ | ⟨rfl, rfl⟩ | ⟨rfl, rfl⟩ | ⟨rfl, rfl⟩ | ⟨rfl, rfl⟩ <;> decide +kernel
theorem wd_of {p : Program} {loose : List Str} {mean : ExcName → Option Value} (X : (hp w.params).In h) (T : Top p loose mean mg mb h) : Wd prog w cls0 h tb0 fa0 (hp w.params) mg mb where
  gns := T.g
  bns := T.b
  lim := T.nolimit
  X := X
  ck := fun c => by
    unfold cls0
    split
    · exact ⟨64, cls_u⟩
    · exact ⟨43, cls_p⟩
  fn := fun k hk => by
    have hm : k ∈ fnList := List.contains_iff_mem.mp hk
    have := List.all_eq_true.mp (fn_all (P := w.params)) k hm
    rw [Bool.and_eq_true] at this
    exact ⟨ns_some_of X T.g (refTo_is this.1), this.2⟩
  cl := fun k hk => by
    unfold isCls at hk
    rw [Bool.or_eq_true, beq_iff_eq, beq_iff_eq] at hk
    rcases hk with rfl | rfl
    · exact ⟨ns_some_of X T.g (refTo_is (by kernel_rfl)), by kernel_rfl, cls_p⟩
    · exact ⟨ns_some_of X T.g (refTo_is (by kernel_rfl)), by kernel_rfl, cls_u⟩
  tab := fun k a e => by
    unfold tb0 at e
    split at e
    · rename_i z; cases e; subst z
      exact ⟨.ref 15, ns_some_of X T.g (refTo_is (by kernel_rfl)), fun ad hf hh => ops_rel X hh⟩
    · split at e
      · rename_i z; cases e; subst z
        exact ⟨.ref 29, ns_some_of X T.g (refTo_is (by kernel_rfl)), fun ad hf hh => ends_rel X hh⟩
      · cases e
  bi := fun n v hm => by
    have := List.all_eq_true.mp (bi_all (P := w.params)) (n, v) hm
    rw [Bool.and_eq_true, bne_iff_ne] at this
    exact ⟨ns_none_of X T.g (noneIn_is this.1), by rw [T.builtins n this.2]; exact bi_boot n v hm⟩
end
end Mine
/-! part NO -/
set_option maxHeartbeats 8000000
namespace Mine
open PySem PySem.W PyProof.Rows

theorem room_caller : Room callerA 40 := ⟨rfl, by decide, by decide⟩
theorem law_call {p : Program} {w : World} {loose : List Str} {mean : ExcName → Option Value} {mg mb : Str → Option Value} {s₁ : Shared} {a : Addr} {ns : List Int} {R : Result → Shared → Prop} {P : Params} {prog : Program} (X : (hp w.params).In s₁.heap) (T : Top p loose mean mg mb s₁.heap)
    (hw : Well P s₁.heap (.ref a) (ofPy (.list (ns.map .int)))) (e : ∃ σ', cfD 20 k_law [.lst (ns.map .int)] [] = some (.bool true, σ'))
    (fin : ∀ h' tk, (∀ b o, s₁.heap.get? b = some o → h'.get? b = some o) → R (.ok (.ret (.bool true))) { s₁ with heap := h', toks := tk }) :
    codeAny (model prog w) callerA (.call (.ref 263) ⟨[.ref a], []⟩) R s₁ := by
  obtain ⟨σ', e⟩ := e
  have W := wd_of (prog := prog) X T
  have S : Sit prog w cls0 s₁.heap [] s₁.heap.get? [] s₁.heap := ⟨fun _ _ e => e, fun _ _ e => e, rfl, fun i p o q => (by cases i <;> cases q), (fun _ h => nomatch h), .nil⟩
  have V : VRels prog w [] s₁.heap.get? [AV.lst (ns.map .int)] [.ref a] := by
    refine VRels.one ?_
    cases hw with
    | list ha wa =>
      rw [VRel]
      exact ⟨a, _, 0, rfl, ha, wellInts wa⟩
  refine calls W (fns_at X) 20 callerA room_caller k_law _ _ _ _ _ _ _ _ _ (.inl (by decide)) e S V fun v h' tk ad' hf' S' E' V' => ?_
  rw [VRel] at V'
  subst V'
  exact fin h' tk fun b o q => E'.kp b o q fun _ hp => nomatch hp
theorem d0_is : (defOf q0 "law").isSome = true := by kernel_rfl
noncomputable def d0 : DefRec := ((defOf q0 "law").get d0_is).1
theorem d0_def : defOf q0 PySem.Challenge.rw_nz0403_01.row.toRowW.name = some (d0, []) := by kernel_rfl
theorem d0_the : PySem.Challenge.rw_nz0403_01.row.toRowW.prog.theDef PySem.Challenge.rw_nz0403_01.row.toRowW.name = some (d0.params, d0.body, d0.scope) := by kernel_rfl
theorem d0_kw : kwWritten? d0.params.kwonlyargs d0.params.kw_defaults = some [] := by kernel_rfl
theorem walk0 (L : ∀ ns : List Int, ns.length ≤ 63 → ∃ σ', cfD 20 k_law [.lst (ns.map .int)] [] = some (.bool true, σ')) : WalkO q0 loose0 (XL q0 []) hk0.says PySem.Challenge.rw_nz0403_01.row.toRowW d0 [] fun f vs => PySem.call f vs := by
  intro w s₀ s₁ mg mb G Y fa o pm cd doc dV kV ho hd hcd hD hmg hg args vals as hpre hlay hrd hwl hlo
  have KX : (hp w.params).In s₁.heap := kIn_of Y
  refine Ground.open G ?_
  intro T B D TE TW
  wrow_args hpre hlay hrd hwl hlo
  all_goals (
    first | refine callC_kw (enter_call ?_) | refine enter_call ?_ | refine callC_kw (enter_callW ?_) | refine enter_callW ?_ | w_how
    clear hd hcd hD
    have e263 : mg (Str.ofString "law") = some (.ref 263) := ns_some_of KX T.g (refTo_is (by kernel_rfl))
    have hfa : Value.ref fa = Value.ref 263 := Option.some.inj (Eq.trans (Eq.symm hmg) e263)
    cases hfa
    clear hmg
    refine law_call (P := w.params) (ns := ?ns) KX T ?hw (L ?ns ?hl) ?fin
    case hw => assumption
    case hl => omega
    case fin =>
      intro h' tk keep
      exact ⟨.inl ⟨.bool true, .bool true, [], rfl, fun cls => rfl, .bool true, by kernel_rfl, fun _ => ⟨List.nodup_nil, fun _ h => nomatch h⟩⟩, .of_keep keep, rfl, .of_eq hg⟩)
theorem head (L : ∀ ns : List Int, ns.length ≤ 63 → ∃ σ', cfD 20 k_law [.lst (ns.map .int)] [] = some (.bool true, σ')) : PySem.Challenge.rw_nz0403_01.Holds := by
  refine holds_law said0 fun said => ?_
  refine holds_open (q := q0) (loose := loose0) (Xt := Xt0) (XP := XL q0 []) (Yf := hk0.obs) (Ya := hk0.val) (YP := hk0.says) (N := 3000) left0 hk0.of hk0.keeps (fun s e => xl_of s (Bool.and_eq_true_iff.mp e).1) XL.keeps d0_def d0_the d0_kw (fun s e => recFacts_of (Bool.and_eq_true_iff.mp e).2) (by rfl) (by assumption) (by decide +kernel) ⟨rfl, rfl, rfl, rfl, rfl, by decide +kernel⟩ ?hw (walk0 L)
  case hw => w_witness2
end Mine
/-! part NP -/
namespace Mine
open PySem

noncomputable def bV {α β : Type} (m : Option (α × Sto)) (k : α → Sto → Option β) : Option β := m.bind fun p => k p.1 p.2
noncomputable def mV {α β : Type} (m : Option (α × Sto)) (k : α → Sto → β) : Option β := m.map fun p => k p.1 p.2
noncomputable def mO (o : Option AV) (σ : Sto) : Option (AV × Sto) := o.map fun r => (r, σ)
noncomputable def mB (o : Option Bool) (σ : Sto) : Option (AV × Sto) := o.map fun r => (AV.bool r, σ)
noncomputable def mN (o : Option Bool) (σ : Sto) : Option (AV × Sto) := o.map fun r => (AV.bool (!r), σ)
noncomputable def bO (m : Option Out) (k : Loc → Sto → Option Out) : Option Out := m.bind fun o => match o with
  | .next ρ σ => k ρ σ
  | .ret a σ => some (.ret a σ)
noncomputable def fin (m : Option Out) : Option (AV × Sto) := m.map fun o => match o with
  | .next _ σ => (.none, σ)
  | .ret a σ => (a, σ)
noncomputable def rv (k : Nat) (ρ : Loc) (σ : Sto) : Option (AV × Sto) := match look k ρ with
  | some (.val a) => some (a, σ)
  | _ => none
noncomputable def bL {β : Type} (k : Nat) (ρ : Loc) (f : List AV → Option β) : Option β := match look k ρ with
  | some (.own l) => f l
  | _ => none
noncomputable def bB (isAnd last : Bool) (m : Option (AV × Sto)) (k : Sto → Option (AV × Sto)) : Option (AV × Sto) := bV m fun v σ => (asB v).bind fun b => if last || b != isAnd then some (.bool b, σ) else k σ
noncomputable def oA (k : Nat) (v : AV) (σ : Sto) : Option (AV × Sto) := match v with
  | .obj i => match σ[i]? with
    | some (.inst _ fs) => (field k fs).map fun a => (a, σ)
    | _ => none
  | _ => none
noncomputable def oD (l : List AV) (σ : Sto) : Option (AV × Sto) := (halves l).bind fun p => if keysOk p.1 then some (.dct p.1 p.2, σ) else none
noncomputable def oS (l : List AV) (v : AV) (σ : Sto) : Option (AV × Sto) := match v with
  | .int i => (atI l i).map fun r => (r, σ)
  | _ => none
noncomputable def oT (u : AV) (σ : Sto) : Option (AV × Sto) := match u with
  | .tup (_ :: xs) => if fits xs then some (.tup xs, σ) else none
  | _ => none
noncomputable def oN (c : Nat) (cf : List AV → Sto → Option (AV × Sto)) (l : List AV) (σ : Sto) : Option (AV × Sto) := (cf (.obj σ.length :: l) (σ ++ [.inst c []])).bind fun p => match p.1 with
  | .none => some (.obj σ.length, p.2)
  | _ => none
noncomputable def oG (u v w : AV) (σ : Sto) : Option (AV × Sto) := match u with
  | .dct ks vs => (keyOf ks vs v).map fun r => (r.getD w, σ)
  | _ => none
noncomputable def oC (t : Nat) (ρ : Loc) (c : Loc → Sto → Option (Bool × Sto)) (e : Loc → Sto → Option (AV × Sto)) (s : AV) (σ : Sto) : Option (List AV × Sto) := (items s).bind fun L => if fits L then
  compL (fun v σ => (c (put t (.val v) (valsOf ρ)) σ).bind fun p => if p.1 then (e (put t (.val v) (valsOf ρ)) p.2).map fun q => (some q.1, q.2) else some (none, p.2)) L σ else none
noncomputable def oCat (u v : AV) (σ : Sto) : Option (List AV × Sto) := match u, v with
  | .lst l, .lst m => if fits l && fits m then some (l ++ m, σ) else none
  | _, _ => none
noncomputable def oRep (u v : AV) (σ : Sto) : Option (List AV × Sto) := match u, v with
  | .lst [l], .int n => if decide (0 ≤ n) && decide (n ≤ 1000) then some (repL [l] n.toNat, σ) else none
  | _, _ => none
noncomputable def oSl (u : AV) (l h : Option AV) (σ : Sto) : Option (List AV × Sto) := match u with
  | .lst xs => if fits xs then (cutL xs l h).map fun r => (r, σ) else none
  | _ => none
noncomputable def oZ (u v : AV) (σ : Sto) : Option (List AV × Sto) := match u, v with
  | .tup (a :: l), .tup (b :: m) => if fits (a :: l) then some (zipL (a :: l) (b :: m), σ) else none
  | _, _ => none
noncomputable def oLi (u : AV) (σ : Sto) : Option (List AV × Sto) := match u with
  | .lst l => if fits l then some (l, σ) else none
  | _ => none
noncomputable def oU (ks : List Nat) (ρ : Loc) (v : AV) (σ : Sto) : Option Out := match v with
  | .tup l => (putAll ks l ρ).map fun ρ => .next ρ σ
  | _ => none
noncomputable def oSA (ρ : Loc) (k : Nat) (v u : AV) (σ : Sto) : Option Out := match u with
  | .obj i => match σ[i]? with
    | some (.inst c fs) => if decide ((putF k v fs).length ≤ 100) then some (.next ρ (σ.set i (.inst c (putF k v fs)))) else none
    | _ => none
  | _ => none
noncomputable def oSM (ρ : Loc) (v u j : AV) (σ : Sto) : Option Out := match u, j with
  | .obj a, .int j => match σ[a]? with
    | some (.mlst l) => (setI l j v).map fun l => .next ρ (σ.set a (.mlst l))
    | _ => none
  | _, _ => none
noncomputable def oSO (ρ : Loc) (k : Nat) (v j : AV) (σ : Sto) : Option Out := match look k ρ, j with
  | some (.own l), .int j => (setI l j v).map fun l => .next (put k (.own l) ρ) σ
  | _, _ => none
noncomputable def oAp (ρ : Loc) (k : Nat) (v : AV) (σ : Sto) : Option Out := match look k ρ with
  | some (.own l) => if fits l then some (.next (put k (.own (l ++ [v])) ρ) σ) else none
  | _ => none
noncomputable def oEx (ρ : Loc) (k : Nat) (v : AV) (σ : Sto) : Option Out := (items v).bind fun m => match look k ρ with
  | some (.own l) => if fits l && fits m then some (.next (put k (.own (l ++ m)) ρ) σ) else none
  | _ => none
noncomputable def oPop (ρ : Loc) (t k : Nat) (σ : Sto) : Option Out := match look k ρ with
  | some (.own l) => if fits l then (l.getLast?).map fun v => .next (put t (.val v) (put k (.own l.dropLast) ρ)) σ else none
  | _ => none
noncomputable def oF2 (t u : Nat) (ρ : Loc) (b : Loc → Sto → Option Out) (v : AV) (σ : Sto) : Option Out := match v with
  | .lst L => forL (fun v ρ σ => match v with
    | .tup l => (putAll [t, u] l ρ).bind fun ρ => b ρ σ
    | _ => none) L ρ σ
  | _ => none
noncomputable def oFE (t u : Nat) (ρ : Loc) (b : Loc → Sto → Option Out) (v : AV) (σ : Sto) : Option Out := match v with
  | .lst L => if fits L then forL (fun v ρ σ => match v with
    | .tup l => (putAll [t, u] l ρ).bind fun ρ => b ρ σ
    | _ => none) (enumL 0 L) ρ σ else none
  | _ => none
noncomputable def oFR (t : Nat) (ρ : Loc) (b : Loc → Sto → Option Out) (v : AV) (σ : Sto) : Option Out := match v with
  | .int n => if decide (0 ≤ n) && decide (n ≤ 1000) then forL (fun v ρ σ => b (put t (.val v) ρ) σ) (rangeL n.toNat) ρ σ else none
  | _ => none
noncomputable def oE (ρ : Loc) (v : AV) (σ : Sto) : Option Out := match v with
  | .int _ => some (.next ρ σ)
  | _ => none
noncomputable def oFz (ρ : Loc) (k : Nat) (σ : Sto) : Option Out := match look k ρ with
  | some (.own l) => some (.next (put k (.val (.lst l)) ρ) σ)
  | _ => none
noncomputable abbrev Fn := List AV → Sto → Option (AV × Sto)

noncomputable def s_Procedure (l : List AV) (σ : Sto) : Option (AV × Sto) := (bindAll p_Procedure l).bind fun ρ => fin (bO (bV (rv 3 ρ σ) fun v σ => bV (rv 2 ρ σ) fun u σ => oSA ρ 3 v u σ) fun ρ σ => bO (bV (rv 4 ρ σ) fun v σ => bV (rv 2 ρ σ) fun u σ => oSA ρ 4 v u σ) fun ρ σ => bO (bV (rv 5 ρ σ) fun v σ => bV (rv 2 ρ σ) fun u σ => oSA ρ 5 v u σ) fun ρ σ => bO (bV (rv 6 ρ σ) fun v σ => bV (rv 2 ρ σ) fun u σ => oSA ρ 6 v u σ) fun ρ σ => bO (bV (rv 7 ρ σ) fun v σ => bV (rv 2 ρ σ) fun u σ => oSA ρ 7 v u σ) fun ρ σ => bO (bV (rv 8 ρ σ) fun v σ => bV (rv 2 ρ σ) fun u σ => oSA ρ 8 v u σ) fun ρ σ => bO (bV (rv 9 ρ σ) fun v σ => bV (rv 2 ρ σ) fun u σ => oSA ρ 9 v u σ) fun ρ σ => bO (bV (rv 10 ρ σ) fun v σ => bV (rv 2 ρ σ) fun u σ => oSA ρ 10 v u σ) fun ρ σ => some (Out.next ρ σ))
theorem l_Procedure (cf : Callf) : runF cf tb0 p_Procedure b_Procedure = s_Procedure  := by kernel_rfl
noncomputable def n_Procedure : Fn := s_Procedure 
theorem e_Procedure (m : Nat) : cfD (m + 1) k_Procedure = n_Procedure := by
  have h : cfD (m + 1) k_Procedure = runF (cfD (m + 0)) tb0 p_Procedure b_Procedure := by kernel_rfl
  rw [h, l_Procedure]
  rfl
noncomputable def s_Unit (l : List AV) (σ : Sto) : Option (AV × Sto) := (bindAll p_Unit l).bind fun ρ => fin (bO (bV (rv 12 ρ σ) fun v σ => bV (rv 2 ρ σ) fun u σ => oSA ρ 12 v u σ) fun ρ σ => bO (bV (rv 13 ρ σ) fun v σ => bV (rv 2 ρ σ) fun u σ => oSA ρ 13 v u σ) fun ρ σ => bO (bV (rv 15 ρ σ) fun v σ => bV (rv 2 ρ σ) fun u σ => oSA ρ 14 v u σ) fun ρ σ => bO (bV (rv 16 ρ σ) fun v σ => bV (rv 2 ρ σ) fun u σ => oSA ρ 16 v u σ) fun ρ σ => some (Out.next ρ σ))
theorem l_Unit (cf : Callf) : runF cf tb0 p_Unit b_Unit = s_Unit  := by kernel_rfl
noncomputable def n_Unit : Fn := s_Unit 
theorem e_Unit (m : Nat) : cfD (m + 1) k_Unit = n_Unit := by
  have h : cfD (m + 1) k_Unit = runF (cfD (m + 0)) tb0 p_Unit b_Unit := by kernel_rfl
  rw [h, l_Unit]
  rfl
noncomputable def s_entry_registers (l : List AV) (σ : Sto) : Option (AV × Sto) := (bindAll p_entry_registers l).bind fun ρ => fin (bO (mV (bV (bV (bV (rv 18 ρ σ) (oA 5)) fun u σ => bV (bV (bV (rv 18 ρ σ) (oA 6)) fun v σ => mO (toIntV v) σ) fun v σ => mO (binV BO.add u v) σ) fun u σ => bV (bV (bV (bV (rv 18 ρ σ) (oA 7)) fun v σ => (asB v).map fun b => (AV.bool (!b), σ)) fun v σ => mO (toIntV v) σ) fun v σ => mO (binV BO.add u v) σ) fun v σ => Out.ret v σ) fun ρ σ => some (Out.next ρ σ))
theorem l_entry_registers (cf : Callf) : runF cf tb0 p_entry_registers b_entry_registers = s_entry_registers  := by kernel_rfl
noncomputable def n_entry_registers : Fn := s_entry_registers 
theorem e_entry_registers (m : Nat) : cfD (m + 1) k_entry_registers = n_entry_registers := by
  have h : cfD (m + 1) k_entry_registers = runF (cfD (m + 0)) tb0 p_entry_registers b_entry_registers := by kernel_rfl
  rw [h, l_entry_registers]
  rfl
noncomputable def s_operand_pairs (l : List AV) (σ : Sto) : Option (AV × Sto) := (bindAll p_operand_pairs l).bind fun ρ => fin (bO (mV (mV (bV (bV (some (t_OPERANDS, σ)) fun u σ => bV (bV (rv 21 ρ σ) fun u σ => bV (some (AV.int 0, σ)) fun v σ => mO (subV σ u v) σ) fun v σ => mO (subV σ u v) σ) fun u σ => bV (bV (rv 21 ρ σ) oT) fun v σ => oZ u v σ) fun l σ => (AV.lst l, σ)) fun v σ => Out.ret v σ) fun ρ σ => some (Out.next ρ σ))
theorem l_operand_pairs (cf : Callf) : runF cf tb0 p_operand_pairs b_operand_pairs = s_operand_pairs  := by kernel_rfl
noncomputable def n_operand_pairs : Fn := s_operand_pairs 
theorem e_operand_pairs (m : Nat) : cfD (m + 1) k_operand_pairs = n_operand_pairs := by
  have h : cfD (m + 1) k_operand_pairs = runF (cfD (m + 0)) tb0 p_operand_pairs b_operand_pairs := by kernel_rfl
  rw [h, l_operand_pairs]
  rfl
noncomputable def s_registers_read (c22 : Fn) (l : List AV) (σ : Sto) : Option (AV × Sto) := (bindAll p_registers_read l).bind fun ρ => fin (bO (mV (some (([] : List AV), σ)) fun l σ => Out.next (put 0 (.own l) ρ) σ) fun ρ σ => bO (bV (bV (bV (rv 21 ρ σ) fun v σ => mV (some (([] : List AV), σ)) fun l σ => (v :: l, σ)) c22) (oF2 23 25 ρ fun ρ σ => bO (bV (bV (rv 23 ρ σ) fun u σ => bV (some (AV.str 24, σ)) fun v σ => mB (cmpV CO.eq u v) σ) fun v σ => (asB v).bind fun t => if t then bO (bV (rv 25 ρ σ) (oAp ρ 0)) fun ρ σ => some (Out.next ρ σ) else bO (bV (bV (rv 23 ρ σ) fun u σ => bV (some (AV.str 26, σ)) fun v σ => mB (cmpV CO.eq u v) σ) fun v σ => (asB v).bind fun t => if t then bO (bV (rv 25 ρ σ) (oEx ρ 0)) fun ρ σ => some (Out.next ρ σ) else bO (bV (bV (rv 23 ρ σ) fun u σ => bV (some (AV.str 27, σ)) fun v σ => mB (cmpV CO.eq u v) σ) fun v σ => (asB v).bind fun t => if t then bO (mV (mV (bV (rv 25 ρ σ) (oC 29 ρ (fun (_ : Loc) (σ : Sto) => some (true, σ)) (fun ρ σ => bV (rv 29 ρ σ) fun u σ => bV (some (AV.int 0, σ)) fun v σ => mO (subV σ u v) σ))) fun l σ => (AV.lst l, σ)) fun v σ => Out.next (put 28 (.val v) ρ) σ) fun ρ σ => bO (bV (rv 25 ρ σ) fun v σ => (items v).bind fun L => forL (fun v ρ σ => (fun ρ => bO (bV (mV (bV (bV (rv 29 ρ σ) fun u σ => bV (some (AV.int 2, σ)) fun v σ => mO (subV σ u v) σ) (oC 30 ρ (fun ρ σ => bV (bV (rv 30 ρ σ) fun u σ => bV (rv 28 ρ σ) fun v σ => mN (isinV u v) σ) fun v σ => (asB v).map fun b => (b, σ)) (fun ρ σ => rv 30 ρ σ))) fun l σ => (AV.lst l, σ)) (oEx ρ 0)) fun ρ σ => some (Out.next ρ σ)) (put 29 (.val v) ρ)) L ρ σ) fun ρ σ => some (Out.next ρ σ) else some (Out.next ρ σ)) fun ρ σ => some (Out.next ρ σ)) fun ρ σ => some (Out.next ρ σ)) fun ρ σ => some (Out.next ρ σ))) fun ρ σ => bO (oFz ρ 0 σ) fun ρ σ => bO (mV (rv 0 ρ σ) fun v σ => Out.ret v σ) fun ρ σ => some (Out.next ρ σ))
theorem l_registers_read (cf : Callf) : runF cf tb0 p_registers_read b_registers_read = s_registers_read (cf 22) := by kernel_rfl
noncomputable def n_registers_read : Fn := s_registers_read n_operand_pairs
theorem e_registers_read (m : Nat) : cfD (m + 2) k_registers_read = n_registers_read := by
  have h : cfD (m + 2) k_registers_read = runF (cfD (m + 1)) tb0 p_registers_read b_registers_read := by kernel_rfl
  have h22 : cfD (m + 1) 22 = n_operand_pairs := e_operand_pairs (m + 0)
  rw [h, l_registers_read, h22]
  rfl
noncomputable def s_registers_written (c22 : Fn) (l : List AV) (σ : Sto) : Option (AV × Sto) := (bindAll p_registers_written l).bind fun ρ => fin (bO (mV (some (([] : List AV), σ)) fun l σ => Out.next (put 0 (.own l) ρ) σ) fun ρ σ => bO (bV (bV (bV (rv 21 ρ σ) fun v σ => mV (some (([] : List AV), σ)) fun l σ => (v :: l, σ)) c22) (oF2 23 25 ρ fun ρ σ => bO (bV (bV (rv 23 ρ σ) fun u σ => bV (some (AV.str 32, σ)) fun v σ => mB (cmpV CO.eq u v) σ) fun v σ => (asB v).bind fun t => if t then bO (bV (rv 25 ρ σ) (oAp ρ 0)) fun ρ σ => some (Out.next ρ σ) else bO (bV (bV (rv 23 ρ σ) fun u σ => bV (some (AV.str 27, σ)) fun v σ => mB (cmpV CO.eq u v) σ) fun v σ => (asB v).bind fun t => if t then bO (bV (mV (bV (rv 25 ρ σ) (oC 29 ρ (fun (_ : Loc) (σ : Sto) => some (true, σ)) (fun ρ σ => bV (rv 29 ρ σ) fun u σ => bV (some (AV.int 0, σ)) fun v σ => mO (subV σ u v) σ))) fun l σ => (AV.lst l, σ)) (oEx ρ 0)) fun ρ σ => some (Out.next ρ σ) else some (Out.next ρ σ)) fun ρ σ => some (Out.next ρ σ)) fun ρ σ => some (Out.next ρ σ))) fun ρ σ => bO (oFz ρ 0 σ) fun ρ σ => bO (mV (rv 0 ρ σ) fun v σ => Out.ret v σ) fun ρ σ => some (Out.next ρ σ))
theorem l_registers_written (cf : Callf) : runF cf tb0 p_registers_written b_registers_written = s_registers_written (cf 22) := by kernel_rfl
noncomputable def n_registers_written : Fn := s_registers_written n_operand_pairs
theorem e_registers_written (m : Nat) : cfD (m + 2) k_registers_written = n_registers_written := by
  have h : cfD (m + 2) k_registers_written = runF (cfD (m + 1)) tb0 p_registers_written b_registers_written := by kernel_rfl
  have h22 : cfD (m + 1) 22 = n_operand_pairs := e_operand_pairs (m + 0)
  rw [h, l_registers_written, h22]
  rfl
noncomputable def s_label_of (c22 : Fn) (l : List AV) (σ : Sto) : Option (AV × Sto) := (bindAll p_label_of l).bind fun ρ => fin (bO (bV (bV (bV (rv 21 ρ σ) fun v σ => mV (some (([] : List AV), σ)) fun l σ => (v :: l, σ)) c22) (oF2 23 25 ρ fun ρ σ => bO (bV (bV (rv 23 ρ σ) fun u σ => bV (some (AV.str 34, σ)) fun v σ => mB (cmpV CO.eq u v) σ) fun v σ => (asB v).bind fun t => if t then bO (mV (rv 25 ρ σ) fun v σ => Out.ret v σ) fun ρ σ => some (Out.next ρ σ) else some (Out.next ρ σ)) fun ρ σ => some (Out.next ρ σ))) fun ρ σ => bO (mV (some (AV.none, σ)) fun v σ => Out.ret v σ) fun ρ σ => some (Out.next ρ σ))
theorem l_label_of (cf : Callf) : runF cf tb0 p_label_of b_label_of = s_label_of (cf 22) := by kernel_rfl
noncomputable def n_label_of : Fn := s_label_of n_operand_pairs
theorem e_label_of (m : Nat) : cfD (m + 2) k_label_of = n_label_of := by
  have h : cfD (m + 2) k_label_of = runF (cfD (m + 1)) tb0 p_label_of b_label_of := by kernel_rfl
  have h22 : cfD (m + 1) 22 = n_operand_pairs := e_operand_pairs (m + 0)
  rw [h, l_label_of, h22]
  rfl
noncomputable def s_places_behind (c35 : Fn) (l : List AV) (σ : Sto) : Option (AV × Sto) := (bindAll p_places_behind l).bind fun ρ => fin (bO (mV (bV (rv 10 ρ σ) fun u σ => bV (rv 36 ρ σ) fun v σ => mO (subV σ u v) σ) fun v σ => Out.next (put 21 (.val v) ρ) σ) fun ρ σ => bO (mV (bV (bV (bV (rv 21 ρ σ) fun u σ => bV (some (AV.int 0, σ)) fun v σ => mO (subV σ u v) σ) fun u σ => bV (some (t_ENDS, σ)) fun v σ => mB (isinV u v) σ) fun v σ => (asB v).bind fun t => if t then some (([] : List AV), σ) else bV (bV (rv 36 ρ σ) fun u σ => bV (some (AV.int 1, σ)) fun v σ => mO (binV BO.add u v) σ) fun v σ => mV (some (([] : List AV), σ)) fun l σ => (v :: l, σ)) fun l σ => Out.next (put 0 (.own l) ρ) σ) fun ρ σ => bO (mV (bV (bV (rv 21 ρ σ) fun v σ => mV (some (([] : List AV), σ)) fun l σ => (v :: l, σ)) c35) fun v σ => Out.next (put 34 (.val v) ρ) σ) fun ρ σ => bO (bV (bB true false (mV (rv 34 ρ σ) fun v σ => (AV.bool (match v with | .none => false | _ => true), σ)) fun σ => bB true true (bV (rv 34 ρ σ) fun u σ => bL 0 ρ fun l => mN (isinL u l) σ) fun σ => (none : Option (AV × Sto))) fun v σ => (asB v).bind fun t => if t then bO (bV (rv 34 ρ σ) (oAp ρ 0)) fun ρ σ => some (Out.next ρ σ) else some (Out.next ρ σ)) fun ρ σ => bO (oFz ρ 0 σ) fun ρ σ => bO (mV (rv 0 ρ σ) fun v σ => Out.ret v σ) fun ρ σ => some (Out.next ρ σ))
theorem l_places_behind (cf : Callf) : runF cf tb0 p_places_behind b_places_behind = s_places_behind (cf 35) := by kernel_rfl
noncomputable def n_places_behind : Fn := s_places_behind n_label_of
theorem e_places_behind (m : Nat) : cfD (m + 3) k_places_behind = n_places_behind := by
  have h : cfD (m + 3) k_places_behind = runF (cfD (m + 2)) tb0 p_places_behind b_places_behind := by kernel_rfl
  have h35 : cfD (m + 2) 35 = n_label_of := e_label_of (m + 0)
  rw [h, l_places_behind, h35]
  rfl
noncomputable def s_is_count (l : List AV) (σ : Sto) : Option (AV × Sto) := (bindAll p_is_count l).bind fun ρ => fin (bO (mV (bB true false (bV (rv 39 ρ σ) fun v σ => mB (isiV 0 v) σ) fun σ => bB true false (bV (bV (rv 39 ρ σ) fun v σ => mB (isiV 1 v) σ) fun v σ => (asB v).map fun b => (AV.bool (!b), σ)) fun σ => bB true true (bV (rv 39 ρ σ) fun u σ => bV (some (AV.int 0, σ)) fun v σ => mB (cmpV CO.ge u v) σ) fun σ => (none : Option (AV × Sto))) fun v σ => Out.ret v σ) fun ρ σ => some (Out.next ρ σ))
theorem l_is_count (cf : Callf) : runF cf tb0 p_is_count b_is_count = s_is_count  := by kernel_rfl
noncomputable def n_is_count : Fn := s_is_count 
theorem e_is_count (m : Nat) : cfD (m + 1) k_is_count = n_is_count := by
  have h : cfD (m + 1) k_is_count = runF (cfD (m + 0)) tb0 p_is_count b_is_count := by kernel_rfl
  rw [h, l_is_count]
  rfl
noncomputable def s_is_below (c40 : Fn) (l : List AV) (σ : Sto) : Option (AV × Sto) := (bindAll p_is_below l).bind fun ρ => fin (bO (mV (bB true false (bV (bV (rv 39 ρ σ) fun v σ => mV (some (([] : List AV), σ)) fun l σ => (v :: l, σ)) c40) fun σ => bB true true (bV (rv 39 ρ σ) fun u σ => bV (rv 41 ρ σ) fun v σ => mB (cmpV CO.lt u v) σ) fun σ => (none : Option (AV × Sto))) fun v σ => Out.ret v σ) fun ρ σ => some (Out.next ρ σ))
theorem l_is_below (cf : Callf) : runF cf tb0 p_is_below b_is_below = s_is_below (cf 40) := by kernel_rfl
noncomputable def n_is_below : Fn := s_is_below n_is_count
theorem e_is_below (m : Nat) : cfD (m + 2) k_is_below = n_is_below := by
  have h : cfD (m + 2) k_is_below = runF (cfD (m + 1)) tb0 p_is_below b_is_below := by kernel_rfl
  have h40 : cfD (m + 1) 40 = n_is_count := e_is_count (m + 0)
  rw [h, l_is_below, h40]
  rfl
noncomputable def s_are_registers (c42 : Fn) (l : List AV) (σ : Sto) : Option (AV × Sto) := (bindAll p_are_registers l).bind fun ρ => fin (bO (mV (bB true false (bV (rv 39 ρ σ) fun v σ => mB (isiV 2 v) σ) fun σ => bB true true (bV (mV (bV (rv 39 ρ σ) (oC 43 ρ (fun (_ : Loc) (σ : Sto) => some (true, σ)) (fun ρ σ => bV (bV (rv 43 ρ σ) fun v σ => mV (bV (bV (rv 18 ρ σ) (oA 8)) fun v σ => mV (some (([] : List AV), σ)) fun l σ => (v :: l, σ)) fun l σ => (v :: l, σ)) c42))) fun l σ => (AV.lst l, σ)) fun v σ => mO (allV v) σ) fun σ => (none : Option (AV × Sto))) fun v σ => Out.ret v σ) fun ρ σ => some (Out.next ρ σ))
theorem l_are_registers (cf : Callf) : runF cf tb0 p_are_registers b_are_registers = s_are_registers (cf 42) := by kernel_rfl
noncomputable def n_are_registers : Fn := s_are_registers n_is_below
theorem e_are_registers (m : Nat) : cfD (m + 3) k_are_registers = n_are_registers := by
  have h : cfD (m + 3) k_are_registers = runF (cfD (m + 2)) tb0 p_are_registers b_are_registers := by kernel_rfl
  have h42 : cfD (m + 2) 42 = n_is_below := e_is_below (m + 0)
  rw [h, l_are_registers, h42]
  rfl
noncomputable def s_is_closure_row (c42 c44 : Fn) (l : List AV) (σ : Sto) : Option (AV × Sto) := (bindAll p_is_closure_row l).bind fun ρ => fin (bO (bV (bB false false (bV (bV (rv 29 ρ σ) fun v σ => mB (isiV 2 v) σ) fun v σ => (asB v).map fun b => (AV.bool (!b), σ)) fun σ => bB false false (bV (bV (rv 29 ρ σ) fun v σ => mO (lenV v) σ) fun u σ => bV (some (AV.int 3, σ)) fun v σ => mB (cmpV CO.ne u v) σ) fun σ => bB false true (bV (bV (bV (bV (rv 29 ρ σ) fun u σ => bV (some (AV.int 0, σ)) fun v σ => mO (subV σ u v) σ) fun v σ => mV (bV (bV (rv 18 ρ σ) (oA 8)) fun v σ => mV (some (([] : List AV), σ)) fun l σ => (v :: l, σ)) fun l σ => (v :: l, σ)) c42) fun v σ => (asB v).map fun b => (AV.bool (!b), σ)) fun σ => (none : Option (AV × Sto))) fun v σ => (asB v).bind fun t => if t then bO (mV (some (AV.bool false, σ)) fun v σ => Out.ret v σ) fun ρ σ => some (Out.next ρ σ) else some (Out.next ρ σ)) fun ρ σ => bO (bV (bB false false (bV (bV (bV (bV (rv 29 ρ σ) fun u σ => bV (some (AV.int 1, σ)) fun v σ => mO (subV σ u v) σ) fun v σ => mV (bV (bV (bV (rv 45 ρ σ) (oA 12)) fun v σ => mO (lenV v) σ) fun v σ => mV (some (([] : List AV), σ)) fun l σ => (v :: l, σ)) fun l σ => (v :: l, σ)) c42) fun v σ => (asB v).map fun b => (AV.bool (!b), σ)) fun σ => bB false true (bV (bV (bV (bV (rv 29 ρ σ) fun u σ => bV (some (AV.int 2, σ)) fun v σ => mO (subV σ u v) σ) fun v σ => mV (bV (rv 18 ρ σ) fun v σ => mV (some (([] : List AV), σ)) fun l σ => (v :: l, σ)) fun l σ => (v :: l, σ)) c44) fun v σ => (asB v).map fun b => (AV.bool (!b), σ)) fun σ => (none : Option (AV × Sto))) fun v σ => (asB v).bind fun t => if t then bO (mV (some (AV.bool false, σ)) fun v σ => Out.ret v σ) fun ρ σ => some (Out.next ρ σ) else some (Out.next ρ σ)) fun ρ σ => bO (mV (bV (bV (bV (rv 29 ρ σ) fun u σ => bV (some (AV.int 2, σ)) fun v σ => mO (subV σ u v) σ) fun v σ => mO (lenV v) σ) fun u σ => bV (bV (bV (bV (rv 45 ρ σ) (oA 12)) fun u σ => bV (bV (rv 29 ρ σ) fun u σ => bV (some (AV.int 1, σ)) fun v σ => mO (subV σ u v) σ) fun v σ => mO (subV σ u v) σ) (oA 9)) fun v σ => mB (cmpV CO.eq u v) σ) fun v σ => Out.ret v σ) fun ρ σ => some (Out.next ρ σ))
theorem l_is_closure_row (cf : Callf) : runF cf tb0 p_is_closure_row b_is_closure_row = s_is_closure_row (cf 42) (cf 44) := by kernel_rfl
noncomputable def n_is_closure_row : Fn := s_is_closure_row n_is_below n_are_registers
theorem e_is_closure_row (m : Nat) : cfD (m + 4) k_is_closure_row = n_is_closure_row := by
  have h : cfD (m + 4) k_is_closure_row = runF (cfD (m + 3)) tb0 p_is_closure_row b_is_closure_row := by kernel_rfl
  have h42 : cfD (m + 3) 42 = n_is_below := e_is_below (m + 1)
  have h44 : cfD (m + 3) 44 = n_are_registers := e_are_registers (m + 0)
  rw [h, l_is_closure_row, h42, h44]
  rfl
noncomputable def s_are_closure_rows (c46 : Fn) (l : List AV) (σ : Sto) : Option (AV × Sto) := (bindAll p_are_closure_rows l).bind fun ρ => fin (bO (bV (bB false false (bV (bV (rv 27 ρ σ) fun v σ => mB (isiV 2 v) σ) fun v σ => (asB v).map fun b => (AV.bool (!b), σ)) fun σ => bB false false (bV (rv 27 ρ σ) fun u σ => bV (mV (some (([] : List AV), σ)) fun l σ => (AV.tup l, σ)) fun v σ => mB (cmpV CO.eq u v) σ) fun σ => bB false true (bV (bV (mV (bV (rv 27 ρ σ) (oC 29 ρ (fun (_ : Loc) (σ : Sto) => some (true, σ)) (fun ρ σ => bV (bV (rv 45 ρ σ) fun v σ => mV (bV (rv 18 ρ σ) fun v σ => mV (bV (rv 29 ρ σ) fun v σ => mV (some (([] : List AV), σ)) fun l σ => (v :: l, σ)) fun l σ => (v :: l, σ)) fun l σ => (v :: l, σ)) c46))) fun l σ => (AV.lst l, σ)) fun v σ => mO (allV v) σ) fun v σ => (asB v).map fun b => (AV.bool (!b), σ)) fun σ => (none : Option (AV × Sto))) fun v σ => (asB v).bind fun t => if t then bO (mV (some (AV.bool false, σ)) fun v σ => Out.ret v σ) fun ρ σ => some (Out.next ρ σ) else some (Out.next ρ σ)) fun ρ σ => bO (mV (mV (bV (rv 27 ρ σ) (oC 29 ρ (fun (_ : Loc) (σ : Sto) => some (true, σ)) (fun ρ σ => bV (rv 29 ρ σ) fun u σ => bV (some (AV.int 0, σ)) fun v σ => mO (subV σ u v) σ))) fun l σ => (AV.lst l, σ)) fun v σ => Out.next (put 8 (.val v) ρ) σ) fun ρ σ => bO (mV (bV (bV (rv 8 ρ σ) fun v σ => mO (lensetV v) σ) fun u σ => bV (bV (rv 8 ρ σ) fun v σ => mO (lenV v) σ) fun v σ => mB (cmpV CO.eq u v) σ) fun v σ => Out.ret v σ) fun ρ σ => some (Out.next ρ σ))
theorem l_are_closure_rows (cf : Callf) : runF cf tb0 p_are_closure_rows b_are_closure_rows = s_are_closure_rows (cf 46) := by kernel_rfl
noncomputable def n_are_closure_rows : Fn := s_are_closure_rows n_is_closure_row
theorem e_are_closure_rows (m : Nat) : cfD (m + 5) k_are_closure_rows = n_are_closure_rows := by
  have h : cfD (m + 5) k_are_closure_rows = runF (cfD (m + 4)) tb0 p_are_closure_rows b_are_closure_rows := by kernel_rfl
  have h46 : cfD (m + 4) 46 = n_is_closure_row := e_is_closure_row (m + 0)
  rw [h, l_are_closure_rows, h46]
  rfl
noncomputable def s_operand_fits (c42 c44 c47 : Fn) (l : List AV) (σ : Sto) : Option (AV × Sto) := (bindAll p_operand_fits l).bind fun ρ => fin (bO (bV (bV (rv 23 ρ σ) fun u σ => bV (mV (bV (some (AV.str 32, σ)) fun v σ => mV (bV (some (AV.str 24, σ)) fun v σ => mV (some (([] : List AV), σ)) fun l σ => (v :: l, σ)) fun l σ => (v :: l, σ)) fun l σ => (AV.tup l, σ)) fun v σ => mB (isinV u v) σ) fun v σ => (asB v).bind fun t => if t then bO (mV (bV (bV (rv 25 ρ σ) fun v σ => mV (bV (bV (rv 18 ρ σ) (oA 8)) fun v σ => mV (some (([] : List AV), σ)) fun l σ => (v :: l, σ)) fun l σ => (v :: l, σ)) c42) fun v σ => Out.ret v σ) fun ρ σ => some (Out.next ρ σ) else some (Out.next ρ σ)) fun ρ σ => bO (bV (bV (rv 23 ρ σ) fun u σ => bV (some (AV.str 26, σ)) fun v σ => mB (cmpV CO.eq u v) σ) fun v σ => (asB v).bind fun t => if t then bO (mV (bV (bV (rv 25 ρ σ) fun v σ => mV (bV (rv 18 ρ σ) fun v σ => mV (some (([] : List AV), σ)) fun l σ => (v :: l, σ)) fun l σ => (v :: l, σ)) c44) fun v σ => Out.ret v σ) fun ρ σ => some (Out.next ρ σ) else some (Out.next ρ σ)) fun ρ σ => bO (bV (bV (rv 23 ρ σ) fun u σ => bV (some (AV.str 27, σ)) fun v σ => mB (cmpV CO.eq u v) σ) fun v σ => (asB v).bind fun t => if t then bO (mV (bV (bV (rv 45 ρ σ) fun v σ => mV (bV (rv 18 ρ σ) fun v σ => mV (bV (rv 25 ρ σ) fun v σ => mV (some (([] : List AV), σ)) fun l σ => (v :: l, σ)) fun l σ => (v :: l, σ)) fun l σ => (v :: l, σ)) c47) fun v σ => Out.ret v σ) fun ρ σ => some (Out.next ρ σ) else some (Out.next ρ σ)) fun ρ σ => bO (mV (bV (bV (some (AV.str 49, σ)) fun v σ => mV (bV (bV (bV (rv 45 ρ σ) (oA 13)) fun v σ => mO (lenV v) σ) fun v σ => mV (bV (some (AV.str 50, σ)) fun v σ => mV (bV (bV (bV (rv 45 ρ σ) (oA 14)) fun v σ => mO (lenV v) σ) fun v σ => mV (bV (some (AV.str 9, σ)) fun v σ => mV (bV (bV (rv 18 ρ σ) (oA 9)) fun v σ => mV (bV (some (AV.str 18, σ)) fun v σ => mV (bV (bV (bV (rv 45 ρ σ) (oA 12)) fun v σ => mO (lenV v) σ) fun v σ => mV (bV (some (AV.str 51, σ)) fun v σ => mV (bV (rv 52 ρ σ) fun v σ => mV (bV (some (AV.str 34, σ)) fun v σ => mV (bV (bV (bV (rv 18 ρ σ) (oA 10)) fun v σ => mO (lenV v) σ) fun v σ => mV (some (([] : List AV), σ)) fun l σ => (v :: l, σ)) fun l σ => (v :: l, σ)) fun l σ => (v :: l, σ)) fun l σ => (v :: l, σ)) fun l σ => (v :: l, σ)) fun l σ => (v :: l, σ)) fun l σ => (v :: l, σ)) fun l σ => (v :: l, σ)) fun l σ => (v :: l, σ)) fun l σ => (v :: l, σ)) fun l σ => (v :: l, σ)) fun l σ => (v :: l, σ)) oD) fun v σ => Out.next (put 48 (.val v) ρ) σ) fun ρ σ => bO (mV (bV (bV (rv 25 ρ σ) fun v σ => mV (bV (bV (rv 48 ρ σ) fun u σ => bV (rv 23 ρ σ) fun v σ => mO (subV σ u v) σ) fun v σ => mV (some (([] : List AV), σ)) fun l σ => (v :: l, σ)) fun l σ => (v :: l, σ)) c42) fun v σ => Out.ret v σ) fun ρ σ => some (Out.next ρ σ))
theorem l_operand_fits (cf : Callf) : runF cf tb0 p_operand_fits b_operand_fits = s_operand_fits (cf 42) (cf 44) (cf 47) := by kernel_rfl
noncomputable def n_operand_fits : Fn := s_operand_fits n_is_below n_are_registers n_are_closure_rows
theorem e_operand_fits (m : Nat) : cfD (m + 6) k_operand_fits = n_operand_fits := by
  have h : cfD (m + 6) k_operand_fits = runF (cfD (m + 5)) tb0 p_operand_fits b_operand_fits := by kernel_rfl
  have h42 : cfD (m + 5) 42 = n_is_below := e_is_below (m + 3)
  have h44 : cfD (m + 5) 44 = n_are_registers := e_are_registers (m + 2)
  have h47 : cfD (m + 5) 47 = n_are_closure_rows := e_are_closure_rows (m + 0)
  rw [h, l_operand_fits, h42, h44, h47]
  rfl
noncomputable def s_instruction_word (c22 c53 c46 : Fn) (l : List AV) (σ : Sto) : Option (AV × Sto) := (bindAll p_instruction_word l).bind fun ρ => fin (bO (bV (bB false false (bV (bV (rv 21 ρ σ) fun v σ => mB (isiV 2 v) σ) fun v σ => (asB v).map fun b => (AV.bool (!b), σ)) fun σ => bB false false (bV (rv 21 ρ σ) fun u σ => bV (mV (some (([] : List AV), σ)) fun l σ => (AV.tup l, σ)) fun v σ => mB (cmpV CO.eq u v) σ) fun σ => bB false true (bV (bV (rv 21 ρ σ) fun u σ => bV (some (AV.int 0, σ)) fun v σ => mO (subV σ u v) σ) fun u σ => bV (some (t_OPERANDS, σ)) fun v σ => mN (isinV u v) σ) fun σ => (none : Option (AV × Sto))) fun v σ => (asB v).bind fun t => if t then bO (mV (some (AV.str 21, σ)) fun v σ => Out.ret v σ) fun ρ σ => some (Out.next ρ σ) else some (Out.next ρ σ)) fun ρ σ => bO (bV (bV (bV (rv 21 ρ σ) fun v σ => mO (lenV v) σ) fun u σ => bV (bV (some (AV.int 1, σ)) fun u σ => bV (bV (bV (some (t_OPERANDS, σ)) fun u σ => bV (bV (rv 21 ρ σ) fun u σ => bV (some (AV.int 0, σ)) fun v σ => mO (subV σ u v) σ) fun v σ => mO (subV σ u v) σ) fun v σ => mO (lenV v) σ) fun v σ => mO (binV BO.add u v) σ) fun v σ => mB (cmpV CO.ne u v) σ) fun v σ => (asB v).bind fun t => if t then bO (mV (some (AV.str 54, σ)) fun v σ => Out.ret v σ) fun ρ σ => some (Out.next ρ σ) else some (Out.next ρ σ)) fun ρ σ => bO (bV (bV (bV (rv 21 ρ σ) fun v σ => mV (some (([] : List AV), σ)) fun l σ => (v :: l, σ)) c22) (oF2 23 25 ρ fun ρ σ => bO (bV (bV (bV (bV (rv 45 ρ σ) fun v σ => mV (bV (rv 18 ρ σ) fun v σ => mV (bV (rv 52 ρ σ) fun v σ => mV (bV (rv 23 ρ σ) fun v σ => mV (bV (rv 25 ρ σ) fun v σ => mV (some (([] : List AV), σ)) fun l σ => (v :: l, σ)) fun l σ => (v :: l, σ)) fun l σ => (v :: l, σ)) fun l σ => (v :: l, σ)) fun l σ => (v :: l, σ)) c53) fun v σ => (asB v).map fun b => (AV.bool (!b), σ)) fun v σ => (asB v).bind fun t => if t then bO (mV (rv 23 ρ σ) fun v σ => Out.ret v σ) fun ρ σ => some (Out.next ρ σ) else some (Out.next ρ σ)) fun ρ σ => some (Out.next ρ σ))) fun ρ σ => bO (bV (bB true false (bV (bV (rv 21 ρ σ) fun u σ => bV (some (AV.int 0, σ)) fun v σ => mO (subV σ u v) σ) fun u σ => bV (some (AV.str 55, σ)) fun v σ => mB (cmpV CO.eq u v) σ) fun σ => bB true true (bV (bV (bV (rv 45 ρ σ) fun v σ => mV (bV (rv 18 ρ σ) fun v σ => mV (bV (bV (rv 21 ρ σ) oT) fun v σ => mV (some (([] : List AV), σ)) fun l σ => (v :: l, σ)) fun l σ => (v :: l, σ)) fun l σ => (v :: l, σ)) c46) fun v σ => (asB v).map fun b => (AV.bool (!b), σ)) fun σ => (none : Option (AV × Sto))) fun v σ => (asB v).bind fun t => if t then bO (mV (some (AV.str 55, σ)) fun v σ => Out.ret v σ) fun ρ σ => some (Out.next ρ σ) else some (Out.next ρ σ)) fun ρ σ => bO (mV (some (AV.none, σ)) fun v σ => Out.ret v σ) fun ρ σ => some (Out.next ρ σ))
theorem l_instruction_word (cf : Callf) : runF cf tb0 p_instruction_word b_instruction_word = s_instruction_word (cf 22) (cf 53) (cf 46) := by kernel_rfl
noncomputable def n_instruction_word : Fn := s_instruction_word n_operand_pairs n_operand_fits n_is_closure_row
theorem e_instruction_word (m : Nat) : cfD (m + 7) k_instruction_word = n_instruction_word := by
  have h : cfD (m + 7) k_instruction_word = runF (cfD (m + 6)) tb0 p_instruction_word b_instruction_word := by kernel_rfl
  have h22 : cfD (m + 6) 22 = n_operand_pairs := e_operand_pairs (m + 5)
  have h53 : cfD (m + 6) 53 = n_operand_fits := e_operand_fits (m + 0)
  have h46 : cfD (m + 6) 46 = n_is_closure_row := e_is_closure_row (m + 2)
  rw [h, l_instruction_word, h22, h53, h46]
  rfl
noncomputable def s_mask_of (l : List AV) (σ : Sto) : Option (AV × Sto) := (bindAll p_mask_of l).bind fun ρ => fin (bO (mV (some (AV.int 0, σ)) fun v σ => Out.next (put 0 (.val v) ρ) σ) fun ρ σ => bO (bV (rv 8 ρ σ) fun v σ => (items v).bind fun L => forL (fun v ρ σ => (fun ρ => bO (mV (bV (rv 0 ρ σ) fun u σ => bV (bV (some (AV.int 1, σ)) fun u σ => bV (rv 30 ρ σ) fun v σ => mO (binV BO.shl u v) σ) fun v σ => mO (binV BO.bor u v) σ) fun v σ => Out.next (put 0 (.val v) ρ) σ) fun ρ σ => some (Out.next ρ σ)) (put 30 (.val v) ρ)) L ρ σ) fun ρ σ => bO (mV (rv 0 ρ σ) fun v σ => Out.ret v σ) fun ρ σ => some (Out.next ρ σ))
theorem l_mask_of (cf : Callf) : runF cf tb0 p_mask_of b_mask_of = s_mask_of  := by kernel_rfl
noncomputable def n_mask_of : Fn := s_mask_of 
theorem e_mask_of (m : Nat) : cfD (m + 1) k_mask_of = n_mask_of := by
  have h : cfD (m + 1) k_mask_of = runF (cfD (m + 0)) tb0 p_mask_of b_mask_of := by kernel_rfl
  rw [h, l_mask_of]
  rfl
noncomputable def s_written_ahead (c19 c33 c57 c38 : Fn) (l : List AV) (σ : Sto) : Option (AV × Sto) := (bindAll p_written_ahead l).bind fun ρ => fin (bO (mV (bV (rv 18 ρ σ) (oA 10)) fun v σ => Out.next (put 10 (.val v) ρ) σ) fun ρ σ => bO (mV (bV (mV (bV (some (AV.int (-1), σ)) fun v σ => mV (some (([] : List AV), σ)) fun l σ => (v :: l, σ)) fun l σ => (AV.lst l, σ)) fun u σ => bV (bV (rv 10 ρ σ) fun v σ => mO (lenV v) σ) fun v σ => oRep u v σ) fun l σ => Out.next (put 0 (.own l) ρ) σ) fun ρ σ => bO (bV (bV (bV (some (AV.int 1, σ)) fun u σ => bV (bV (bV (rv 18 ρ σ) fun v σ => mV (some (([] : List AV), σ)) fun l σ => (v :: l, σ)) c19) fun v σ => mO (binV BO.shl u v) σ) fun u σ => bV (some (AV.int 1, σ)) fun v σ => mO (binV BO.sub u v) σ) fun v σ => bV (some (AV.int 0, σ)) fun j σ => oSO ρ 0 v j σ) fun ρ σ => bO (mV (bV (some (AV.int 0, σ)) fun v σ => mV (some (([] : List AV), σ)) fun l σ => (v :: l, σ)) fun l σ => Out.next (put 1 (.own l) ρ) σ) fun ρ σ => bO (whileL (fun ρ σ => bV (bL 1 ρ fun l => some (AV.bool (!l.isEmpty), σ)) fun v σ => (asB v).map fun t => (t, σ)) (fun ρ σ => bO (oPop ρ 36 1 σ) fun ρ σ => bO (mV (bV (bL 0 ρ fun l => bV (rv 36 ρ σ) (oS l)) fun u σ => bV (bV (bV (bV (bV (bV (rv 10 ρ σ) fun u σ => bV (rv 36 ρ σ) fun v σ => mO (subV σ u v) σ) fun v σ => mV (some (([] : List AV), σ)) fun l σ => (v :: l, σ)) c33) fun v σ => mV (some (([] : List AV), σ)) fun l σ => (v :: l, σ)) c57) fun v σ => mO (binV BO.bor u v) σ) fun v σ => Out.next (put 58 (.val v) ρ) σ) fun ρ σ => bO (bV (bV (bV (rv 10 ρ σ) fun v σ => mV (bV (rv 36 ρ σ) fun v σ => mV (some (([] : List AV), σ)) fun l σ => (v :: l, σ)) fun l σ => (v :: l, σ)) c38) fun v σ => (items v).bind fun L => forL (fun v ρ σ => (fun ρ => bO (mV (bV (bV (bL 0 ρ fun l => bV (rv 60 ρ σ) (oS l)) fun u σ => bV (some (AV.int (-1), σ)) fun v σ => mB (cmpV CO.eq u v) σ) fun v σ => (asB v).bind fun t => if t then rv 58 ρ σ else bV (bL 0 ρ fun l => bV (rv 60 ρ σ) (oS l)) fun u σ => bV (rv 58 ρ σ) fun v σ => mO (binV BO.band u v) σ) fun v σ => Out.next (put 59 (.val v) ρ) σ) fun ρ σ => bO (bV (bV (rv 59 ρ σ) fun u σ => bV (bL 0 ρ fun l => bV (rv 60 ρ σ) (oS l)) fun v σ => mB (cmpV CO.ne u v) σ) fun v σ => (asB v).bind fun t => if t then bO (bV (rv 59 ρ σ) fun v σ => bV (rv 60 ρ σ) fun j σ => oSO ρ 0 v j σ) fun ρ σ => bO (bV (rv 60 ρ σ) (oAp ρ 1)) fun ρ σ => some (Out.next ρ σ) else some (Out.next ρ σ)) fun ρ σ => some (Out.next ρ σ)) (put 60 (.val v) ρ)) L ρ σ) fun ρ σ => some (Out.next ρ σ)) 400 ρ σ) fun ρ σ => bO (oFz ρ 0 σ) fun ρ σ => bO (mV (rv 0 ρ σ) fun v σ => Out.ret v σ) fun ρ σ => some (Out.next ρ σ))
theorem l_written_ahead (cf : Callf) : runF cf tb0 p_written_ahead b_written_ahead = s_written_ahead (cf 19) (cf 33) (cf 57) (cf 38) := by kernel_rfl
noncomputable def n_written_ahead : Fn := s_written_ahead n_entry_registers n_registers_written n_mask_of n_places_behind
theorem e_written_ahead (m : Nat) : cfD (m + 4) k_written_ahead = n_written_ahead := by
  have h : cfD (m + 4) k_written_ahead = runF (cfD (m + 3)) tb0 p_written_ahead b_written_ahead := by kernel_rfl
  have h19 : cfD (m + 3) 19 = n_entry_registers := e_entry_registers (m + 2)
  have h33 : cfD (m + 3) 33 = n_registers_written := e_registers_written (m + 1)
  have h57 : cfD (m + 3) 57 = n_mask_of := e_mask_of (m + 2)
  have h38 : cfD (m + 3) 38 = n_places_behind := e_places_behind (m + 0)
  rw [h, l_written_ahead, h19, h33, h57, h38]
  rfl
noncomputable def s_unread_place (c61 c31 c57 : Fn) (l : List AV) (σ : Sto) : Option (AV × Sto) := (bindAll p_unread_place l).bind fun ρ => fin (bO (mV (bV (bV (rv 18 ρ σ) fun v σ => mV (some (([] : List AV), σ)) fun l σ => (v :: l, σ)) c61) fun v σ => Out.next (put 62 (.val v) ρ) σ) fun ρ σ => bO (bV (bV (rv 18 ρ σ) (oA 10)) (oFE 36 21 ρ fun ρ σ => bO (bV (bV (bV (rv 62 ρ σ) fun u σ => bV (rv 36 ρ σ) fun v σ => mO (subV σ u v) σ) fun u σ => bV (some (AV.int (-1), σ)) fun v σ => mB (cmpV CO.ne u v) σ) fun v σ => (asB v).bind fun t => if t then bO (mV (bV (bV (bV (bV (rv 21 ρ σ) fun v σ => mV (some (([] : List AV), σ)) fun l σ => (v :: l, σ)) c31) fun v σ => mV (some (([] : List AV), σ)) fun l σ => (v :: l, σ)) c57) fun v σ => Out.next (put 63 (.val v) ρ) σ) fun ρ σ => bO (bV (bV (bV (rv 63 ρ σ) fun u σ => bV (bV (rv 62 ρ σ) fun u σ => bV (rv 36 ρ σ) fun v σ => mO (subV σ u v) σ) fun v σ => mO (binV BO.band u v) σ) fun u σ => bV (rv 63 ρ σ) fun v σ => mB (cmpV CO.ne u v) σ) fun v σ => (asB v).bind fun t => if t then bO (mV (rv 36 ρ σ) fun v σ => Out.ret v σ) fun ρ σ => some (Out.next ρ σ) else some (Out.next ρ σ)) fun ρ σ => some (Out.next ρ σ) else some (Out.next ρ σ)) fun ρ σ => some (Out.next ρ σ))) fun ρ σ => bO (mV (some (AV.none, σ)) fun v σ => Out.ret v σ) fun ρ σ => some (Out.next ρ σ))
theorem l_unread_place (cf : Callf) : runF cf tb0 p_unread_place b_unread_place = s_unread_place (cf 61) (cf 31) (cf 57) := by kernel_rfl
noncomputable def n_unread_place : Fn := s_unread_place n_written_ahead n_registers_read n_mask_of
theorem e_unread_place (m : Nat) : cfD (m + 5) k_unread_place = n_unread_place := by
  have h : cfD (m + 5) k_unread_place = runF (cfD (m + 4)) tb0 p_unread_place b_unread_place := by kernel_rfl
  have h61 : cfD (m + 4) 61 = n_written_ahead := e_written_ahead (m + 0)
  have h31 : cfD (m + 4) 31 = n_registers_read := e_registers_read (m + 2)
  have h57 : cfD (m + 4) 57 = n_mask_of := e_mask_of (m + 3)
  rw [h, l_unread_place, h61, h31, h57]
  rfl
noncomputable def s_head_word (c40 c19 : Fn) (l : List AV) (σ : Sto) : Option (AV × Sto) := (bindAll p_head_word l).bind fun ρ => fin (bO (mV (bV (bV (rv 45 ρ σ) (oA 12)) fun u σ => bV (rv 36 ρ σ) fun v σ => mO (subV σ u v) σ) fun v σ => Out.next (put 18 (.val v) ρ) σ) fun ρ σ => bO (mV (mV (bV (bV (rv 18 ρ σ) (oA 5)) fun v σ => mV (bV (bV (rv 18 ρ σ) (oA 8)) fun v σ => mV (bV (bV (rv 18 ρ σ) (oA 9)) fun v σ => mV (some (([] : List AV), σ)) fun l σ => (v :: l, σ)) fun l σ => (v :: l, σ)) fun l σ => (v :: l, σ)) fun l σ => (AV.tup l, σ)) fun v σ => Out.next (put 65 (.val v) ρ) σ) fun ρ σ => bO (bV (bV (bV (rv 18 ρ σ) (oA 3)) fun u σ => bV (rv 36 ρ σ) fun v σ => mB (cmpV CO.ne u v) σ) fun v σ => (asB v).bind fun t => if t then bO (mV (some (AV.str 3, σ)) fun v σ => Out.ret v σ) fun ρ σ => some (Out.next ρ σ) else some (Out.next ρ σ)) fun ρ σ => bO (bV (bV (bV (mV (bV (rv 65 ρ σ) (oC 66 ρ (fun (_ : Loc) (σ : Sto) => some (true, σ)) (fun ρ σ => bV (bV (rv 66 ρ σ) fun v σ => mV (some (([] : List AV), σ)) fun l σ => (v :: l, σ)) c40))) fun l σ => (AV.lst l, σ)) fun v σ => mO (allV v) σ) fun v σ => (asB v).map fun b => (AV.bool (!b), σ)) fun v σ => (asB v).bind fun t => if t then bO (mV (some (AV.str 66, σ)) fun v σ => Out.ret v σ) fun ρ σ => some (Out.next ρ σ) else some (Out.next ρ σ)) fun ρ σ => bO (bV (bV (bV (rv 18 ρ σ) (oA 8)) fun u σ => bV (bV (bV (rv 18 ρ σ) fun v σ => mV (some (([] : List AV), σ)) fun l σ => (v :: l, σ)) c19) fun v σ => mB (cmpV CO.lt u v) σ) fun v σ => (asB v).bind fun t => if t then bO (mV (some (AV.str 8, σ)) fun v σ => Out.ret v σ) fun ρ σ => some (Out.next ρ σ) else some (Out.next ρ σ)) fun ρ σ => bO (bV (bV (bV (bV (rv 18 ρ σ) (oA 10)) fun v σ => mO (lenV v) σ) fun u σ => bV (some (AV.int 0, σ)) fun v σ => mB (cmpV CO.eq u v) σ) fun v σ => (asB v).bind fun t => if t then bO (mV (some (AV.str 67, σ)) fun v σ => Out.ret v σ) fun ρ σ => some (Out.next ρ σ) else some (Out.next ρ σ)) fun ρ σ => bO (mV (some (AV.none, σ)) fun v σ => Out.ret v σ) fun ρ σ => some (Out.next ρ σ))
theorem l_head_word (cf : Callf) : runF cf tb0 p_head_word b_head_word = s_head_word (cf 40) (cf 19) := by kernel_rfl
noncomputable def n_head_word : Fn := s_head_word n_is_count n_entry_registers
theorem e_head_word (m : Nat) : cfD (m + 2) k_head_word = n_head_word := by
  have h : cfD (m + 2) k_head_word = runF (cfD (m + 1)) tb0 p_head_word b_head_word := by kernel_rfl
  have h40 : cfD (m + 1) 40 = n_is_count := e_is_count (m + 0)
  have h19 : cfD (m + 1) 19 = n_entry_registers := e_entry_registers (m + 0)
  rw [h, l_head_word, h40, h19]
  rfl
noncomputable def s_procedure_error (c68 c56 c64 : Fn) (l : List AV) (σ : Sto) : Option (AV × Sto) := (bindAll p_procedure_error l).bind fun ρ => fin (bO (mV (bV (bV (rv 45 ρ σ) fun v σ => mV (bV (rv 36 ρ σ) fun v σ => mV (some (([] : List AV), σ)) fun l σ => (v :: l, σ)) fun l σ => (v :: l, σ)) c68) fun v σ => Out.next (put 69 (.val v) ρ) σ) fun ρ σ => bO (bV (mV (rv 69 ρ σ) fun v σ => (AV.bool (match v with | .none => false | _ => true), σ)) fun v σ => (asB v).bind fun t => if t then bO (mV (mV (bV (some (AV.int (-1), σ)) fun v σ => mV (bV (rv 69 ρ σ) fun v σ => mV (some (([] : List AV), σ)) fun l σ => (v :: l, σ)) fun l σ => (v :: l, σ)) fun l σ => (AV.tup l, σ)) fun v σ => Out.ret v σ) fun ρ σ => some (Out.next ρ σ) else some (Out.next ρ σ)) fun ρ σ => bO (mV (bV (bV (rv 45 ρ σ) (oA 12)) fun u σ => bV (rv 36 ρ σ) fun v σ => mO (subV σ u v) σ) fun v σ => Out.next (put 18 (.val v) ρ) σ) fun ρ σ => bO (bV (bV (rv 18 ρ σ) (oA 10)) (oFE 70 21 ρ fun ρ σ => bO (mV (bV (bV (rv 45 ρ σ) fun v σ => mV (bV (rv 18 ρ σ) fun v σ => mV (bV (rv 52 ρ σ) fun v σ => mV (bV (rv 21 ρ σ) fun v σ => mV (some (([] : List AV), σ)) fun l σ => (v :: l, σ)) fun l σ => (v :: l, σ)) fun l σ => (v :: l, σ)) fun l σ => (v :: l, σ)) c56) fun v σ => Out.next (put 69 (.val v) ρ) σ) fun ρ σ => bO (bV (mV (rv 69 ρ σ) fun v σ => (AV.bool (match v with | .none => false | _ => true), σ)) fun v σ => (asB v).bind fun t => if t then bO (mV (mV (bV (rv 70 ρ σ) fun v σ => mV (bV (rv 69 ρ σ) fun v σ => mV (some (([] : List AV), σ)) fun l σ => (v :: l, σ)) fun l σ => (v :: l, σ)) fun l σ => (AV.tup l, σ)) fun v σ => Out.ret v σ) fun ρ σ => some (Out.next ρ σ) else some (Out.next ρ σ)) fun ρ σ => some (Out.next ρ σ))) fun ρ σ => bO (mV (bV (bV (bV (rv 18 ρ σ) (oA 10)) fun v σ => mO (lenV v) σ) fun u σ => bV (some (AV.int 1, σ)) fun v σ => mO (binV BO.sub u v) σ) fun v σ => Out.next (put 71 (.val v) ρ) σ) fun ρ σ => bO (bV (bV (bV (bV (bV (rv 18 ρ σ) (oA 10)) fun u σ => bV (rv 71 ρ σ) fun v σ => mO (subV σ u v) σ) fun u σ => bV (some (AV.int 0, σ)) fun v σ => mO (subV σ u v) σ) fun u σ => bV (some (t_ENDS, σ)) fun v σ => mN (isinV u v) σ) fun v σ => (asB v).bind fun t => if t then bO (mV (mV (bV (rv 71 ρ σ) fun v σ => mV (bV (some (AV.str 72, σ)) fun v σ => mV (some (([] : List AV), σ)) fun l σ => (v :: l, σ)) fun l σ => (v :: l, σ)) fun l σ => (AV.tup l, σ)) fun v σ => Out.ret v σ) fun ρ σ => some (Out.next ρ σ) else some (Out.next ρ σ)) fun ρ σ => bO (mV (bV (bV (rv 18 ρ σ) fun v σ => mV (some (([] : List AV), σ)) fun l σ => (v :: l, σ)) c64) fun v σ => Out.next (put 70 (.val v) ρ) σ) fun ρ σ => bO (mV (bV (mV (rv 70 ρ σ) fun v σ => (AV.bool (match v with | .none => true | _ => false), σ)) fun v σ => (asB v).bind fun t => if t then some (AV.none, σ) else mV (bV (rv 70 ρ σ) fun v σ => mV (bV (some (AV.str 73, σ)) fun v σ => mV (some (([] : List AV), σ)) fun l σ => (v :: l, σ)) fun l σ => (v :: l, σ)) fun l σ => (AV.tup l, σ)) fun v σ => Out.ret v σ) fun ρ σ => some (Out.next ρ σ))
theorem l_procedure_error (cf : Callf) : runF cf tb0 p_procedure_error b_procedure_error = s_procedure_error (cf 68) (cf 56) (cf 64) := by kernel_rfl
noncomputable def n_procedure_error : Fn := s_procedure_error n_head_word n_instruction_word n_unread_place
theorem e_procedure_error (m : Nat) : cfD (m + 8) k_procedure_error = n_procedure_error := by
  have h : cfD (m + 8) k_procedure_error = runF (cfD (m + 7)) tb0 p_procedure_error b_procedure_error := by kernel_rfl
  have h68 : cfD (m + 7) 68 = n_head_word := e_head_word (m + 5)
  have h56 : cfD (m + 7) 56 = n_instruction_word := e_instruction_word (m + 0)
  have h64 : cfD (m + 7) 64 = n_unread_place := e_unread_place (m + 2)
  rw [h, l_procedure_error, h68, h56, h64]
  rfl
noncomputable def s_start_word (c42 : Fn) (l : List AV) (σ : Sto) : Option (AV × Sto) := (bindAll p_start_word l).bind fun ρ => fin (bO (bV (bV (bV (bV (bV (rv 45 ρ σ) (oA 16)) fun v σ => mV (bV (bV (bV (rv 45 ρ σ) (oA 12)) fun v σ => mO (lenV v) σ) fun v σ => mV (some (([] : List AV), σ)) fun l σ => (v :: l, σ)) fun l σ => (v :: l, σ)) c42) fun v σ => (asB v).map fun b => (AV.bool (!b), σ)) fun v σ => (asB v).bind fun t => if t then bO (mV (some (AV.str 16, σ)) fun v σ => Out.ret v σ) fun ρ σ => some (Out.next ρ σ) else some (Out.next ρ σ)) fun ρ σ => bO (mV (bV (bV (rv 45 ρ σ) (oA 12)) fun u σ => bV (bV (rv 45 ρ σ) (oA 16)) fun v σ => mO (subV σ u v) σ) fun v σ => Out.next (put 16 (.val v) ρ) σ) fun ρ σ => bO (mV (bB true false (bV (bV (rv 16 ρ σ) (oA 5)) fun u σ => bV (some (AV.int 0, σ)) fun v σ => mB (cmpV CO.eq u v) σ) fun σ => bB true false (bV (bV (rv 16 ρ σ) (oA 6)) fun v σ => (asB v).map fun b => (AV.bool (!b), σ)) fun σ => bB true false (bV (bV (rv 16 ρ σ) (oA 7)) fun v σ => (asB v).map fun b => (AV.bool (!b), σ)) fun σ => bB true true (bV (bV (rv 16 ρ σ) (oA 9)) fun u σ => bV (some (AV.int 0, σ)) fun v σ => mB (cmpV CO.eq u v) σ) fun σ => (none : Option (AV × Sto))) fun v σ => Out.next (put 75 (.val v) ρ) σ) fun ρ σ => bO (mV (bV (rv 75 ρ σ) fun v σ => (asB v).bind fun t => if t then some (AV.none, σ) else some (AV.str 16, σ)) fun v σ => Out.ret v σ) fun ρ σ => some (Out.next ρ σ))
theorem l_start_word (cf : Callf) : runF cf tb0 p_start_word b_start_word = s_start_word (cf 42) := by kernel_rfl
noncomputable def n_start_word : Fn := s_start_word n_is_below
theorem e_start_word (m : Nat) : cfD (m + 3) k_start_word = n_start_word := by
  have h : cfD (m + 3) k_start_word = runF (cfD (m + 2)) tb0 p_start_word b_start_word := by kernel_rfl
  have h42 : cfD (m + 2) 42 = n_is_below := e_is_below (m + 0)
  rw [h, l_start_word, h42]
  rfl
noncomputable def s_unit_error (c76 c74 : Fn) (l : List AV) (σ : Sto) : Option (AV × Sto) := (bindAll p_unit_error l).bind fun ρ => fin (bO (mV (bV (bV (rv 45 ρ σ) fun v σ => mV (some (([] : List AV), σ)) fun l σ => (v :: l, σ)) c76) fun v σ => Out.next (put 69 (.val v) ρ) σ) fun ρ σ => bO (bV (mV (rv 69 ρ σ) fun v σ => (AV.bool (match v with | .none => false | _ => true), σ)) fun v σ => (asB v).bind fun t => if t then bO (mV (mV (bV (some (AV.int (-1), σ)) fun v σ => mV (bV (some (AV.int (-1), σ)) fun v σ => mV (bV (rv 69 ρ σ) fun v σ => mV (some (([] : List AV), σ)) fun l σ => (v :: l, σ)) fun l σ => (v :: l, σ)) fun l σ => (v :: l, σ)) fun l σ => (AV.tup l, σ)) fun v σ => Out.ret v σ) fun ρ σ => some (Out.next ρ σ) else some (Out.next ρ σ)) fun ρ σ => bO (bV (bV (bV (rv 45 ρ σ) (oA 12)) fun v σ => mO (lenV v) σ) (oFR 36 ρ fun ρ σ => bO (mV (bV (bV (rv 45 ρ σ) fun v σ => mV (bV (rv 36 ρ σ) fun v σ => mV (bV (rv 52 ρ σ) fun v σ => mV (some (([] : List AV), σ)) fun l σ => (v :: l, σ)) fun l σ => (v :: l, σ)) fun l σ => (v :: l, σ)) c74) fun v σ => Out.next (put 0 (.val v) ρ) σ) fun ρ σ => bO (bV (mV (rv 0 ρ σ) fun v σ => (AV.bool (match v with | .none => false | _ => true), σ)) fun v σ => (asB v).bind fun t => if t then bO (mV (mV (bV (rv 36 ρ σ) fun v σ => mV (bV (bV (rv 0 ρ σ) fun u σ => bV (some (AV.int 0, σ)) fun v σ => mO (subV σ u v) σ) fun v σ => mV (bV (bV (rv 0 ρ σ) fun u σ => bV (some (AV.int 1, σ)) fun v σ => mO (subV σ u v) σ) fun v σ => mV (some (([] : List AV), σ)) fun l σ => (v :: l, σ)) fun l σ => (v :: l, σ)) fun l σ => (v :: l, σ)) fun l σ => (AV.tup l, σ)) fun v σ => Out.ret v σ) fun ρ σ => some (Out.next ρ σ) else some (Out.next ρ σ)) fun ρ σ => some (Out.next ρ σ))) fun ρ σ => bO (mV (some (AV.none, σ)) fun v σ => Out.ret v σ) fun ρ σ => some (Out.next ρ σ))
theorem l_unit_error (cf : Callf) : runF cf tb0 p_unit_error b_unit_error = s_unit_error (cf 76) (cf 74) := by kernel_rfl
noncomputable def n_unit_error : Fn := s_unit_error n_start_word n_procedure_error
theorem e_unit_error (m : Nat) : cfD (m + 9) k_unit_error = n_unit_error := by
  have h : cfD (m + 9) k_unit_error = runF (cfD (m + 8)) tb0 p_unit_error b_unit_error := by kernel_rfl
  have h76 : cfD (m + 8) 76 = n_start_word := e_start_word (m + 5)
  have h74 : cfD (m + 8) 74 = n_procedure_error := e_procedure_error (m + 0)
  rw [h, l_unit_error, h76, h74]
  rfl
noncomputable def s_law_pot (l : List AV) (σ : Sto) : Option (AV × Sto) := (bindAll p_law_pot l).bind fun ρ => fin (bO (mV (mV (bV (mV (bV (mV (bV (rv 78 ρ σ) fun u σ => bV (some ((none : Option AV), σ)) fun l σ => bV (mV (some (AV.int 63, σ)) fun v σ => (some v, σ)) fun h σ => oSl u l h σ) fun l σ => (AV.lst l, σ)) oLi) fun l σ => (AV.lst l, σ)) fun v σ => mV (bV (some (AV.int 0, σ)) fun v σ => mV (bV (bV (bV (mV (bV (mV (bV (rv 78 ρ σ) fun u σ => bV (some ((none : Option AV), σ)) fun l σ => bV (mV (some (AV.int 63, σ)) fun v σ => (some v, σ)) fun h σ => oSl u l h σ) fun l σ => (AV.lst l, σ)) (oC 43 ρ (fun (_ : Loc) (σ : Sto) => some (true, σ)) (fun ρ σ => bV (bV (rv 43 ρ σ) fun v σ => mO (toIntV v) σ) fun u σ => bV (some (AV.int 1009, σ)) fun v σ => mO (binV BO.mod u v) σ))) fun l σ => (AV.lst l, σ)) fun v σ => mO (sumV v) σ) fun u σ => bV (some (AV.int 3, σ)) fun v σ => mO (binV BO.add u v) σ) fun v σ => mV (some (([] : List AV), σ)) fun l σ => (v :: l, σ)) fun l σ => (v :: l, σ)) fun l σ => (v :: l, σ)) fun l σ => (AV.obj σ.length, σ ++ [AO.mlst l])) fun v σ => Out.ret v σ) fun ρ σ => some (Out.next ρ σ))
theorem l_law_pot (cf : Callf) : runF cf tb0 p_law_pot b_law_pot = s_law_pot  := by kernel_rfl
noncomputable def n_law_pot : Fn := s_law_pot 
theorem e_law_pot (m : Nat) : cfD (m + 1) k_law_pot = n_law_pot := by
  have h : cfD (m + 1) k_law_pot = runF (cfD (m + 0)) tb0 p_law_pot b_law_pot := by kernel_rfl
  rw [h, l_law_pot]
  rfl
noncomputable def s_law_dip (l : List AV) (σ : Sto) : Option (AV × Sto) := (bindAll p_law_dip l).bind fun ρ => fin (bO (mV (bV (rv 80 ρ σ) fun u σ => bV (some (AV.int 1, σ)) fun v σ => mO (subV σ u v) σ) fun v σ => Out.next (put 70 (.val v) ρ) σ) fun ρ σ => bO (bV (bV (rv 70 ρ σ) fun u σ => bV (some (AV.int 1, σ)) fun v σ => mO (binV BO.add u v) σ) fun v σ => bV (rv 80 ρ σ) fun u σ => bV (some (AV.int 1, σ)) fun j σ => oSM ρ v u j σ) fun ρ σ => bO (bV (bV (rv 70 ρ σ) fun u σ => bV (bV (bV (rv 80 ρ σ) fun u σ => bV (some (AV.int 0, σ)) fun v σ => mO (subV σ u v) σ) fun v σ => mO (lenV v) σ) fun v σ => mB (cmpV CO.lt u v) σ) fun v σ => (asB v).bind fun t => if t then bO (mV (bV (bV (bV (rv 80 ρ σ) fun u σ => bV (some (AV.int 0, σ)) fun v σ => mO (subV σ u v) σ) fun u σ => bV (rv 70 ρ σ) fun v σ => mO (subV σ u v) σ) fun u σ => bV (rv 81 ρ σ) fun v σ => mO (binV BO.mod u v) σ) fun v σ => Out.ret v σ) fun ρ σ => some (Out.next ρ σ) else some (Out.next ρ σ)) fun ρ σ => bO (bV (bV (bV (bV (bV (rv 80 ρ σ) fun u σ => bV (some (AV.int 2, σ)) fun v σ => mO (subV σ u v) σ) fun u σ => bV (some (AV.int 75, σ)) fun v σ => mO (binV BO.mul u v) σ) fun u σ => bV (some (AV.int 74, σ)) fun v σ => mO (binV BO.add u v) σ) fun u σ => bV (some (AV.int 65537, σ)) fun v σ => mO (binV BO.mod u v) σ) fun v σ => bV (rv 80 ρ σ) fun u σ => bV (some (AV.int 2, σ)) fun j σ => oSM ρ v u j σ) fun ρ σ => bO (mV (bV (bV (rv 80 ρ σ) fun u σ => bV (some (AV.int 2, σ)) fun v σ => mO (subV σ u v) σ) fun u σ => bV (rv 81 ρ σ) fun v σ => mO (binV BO.mod u v) σ) fun v σ => Out.ret v σ) fun ρ σ => some (Out.next ρ σ))
theorem l_law_dip (cf : Callf) : runF cf tb0 p_law_dip b_law_dip = s_law_dip  := by kernel_rfl
noncomputable def n_law_dip : Fn := s_law_dip 
theorem e_law_dip (m : Nat) : cfD (m + 1) k_law_dip = n_law_dip := by
  have h : cfD (m + 1) k_law_dip = runF (cfD (m + 0)) tb0 p_law_dip b_law_dip := by kernel_rfl
  rw [h, l_law_dip]
  rfl
noncomputable def s_law_body (l : List AV) (σ : Sto) : Option (AV × Sto) := (bindAll p_law_body l).bind fun ρ => fin (bO (mV (mV (bV (mV (bV (some (AV.str 83, σ)) fun v σ => mV (bV (some (AV.int 3, σ)) fun v σ => mV (bV (some (AV.int 1, σ)) fun v σ => mV (some (([] : List AV), σ)) fun l σ => (v :: l, σ)) fun l σ => (v :: l, σ)) fun l σ => (v :: l, σ)) fun l σ => (AV.tup l, σ)) fun v σ => mV (bV (mV (bV (some (AV.str 84, σ)) fun v σ => mV (bV (some (AV.int 4, σ)) fun v σ => mV (bV (some (AV.int 3, σ)) fun v σ => mV (some (([] : List AV), σ)) fun l σ => (v :: l, σ)) fun l σ => (v :: l, σ)) fun l σ => (v :: l, σ)) fun l σ => (AV.tup l, σ)) fun v σ => mV (bV (mV (bV (some (AV.str 9, σ)) fun v σ => mV (bV (some (AV.int 5, σ)) fun v σ => mV (bV (some (AV.int 1, σ)) fun v σ => mV (some (([] : List AV), σ)) fun l σ => (v :: l, σ)) fun l σ => (v :: l, σ)) fun l σ => (v :: l, σ)) fun l σ => (AV.tup l, σ)) fun v σ => mV (bV (mV (bV (some (AV.str 50, σ)) fun v σ => mV (bV (some (AV.int 3, σ)) fun v σ => mV (bV (some (AV.int 0, σ)) fun v σ => mV (some (([] : List AV), σ)) fun l σ => (v :: l, σ)) fun l σ => (v :: l, σ)) fun l σ => (v :: l, σ)) fun l σ => (AV.tup l, σ)) fun v σ => mV (bV (mV (bV (some (AV.str 85, σ)) fun v σ => mV (bV (some (AV.int 0, σ)) fun v σ => mV (bV (some (AV.int 4, σ)) fun v σ => mV (some (([] : List AV), σ)) fun l σ => (v :: l, σ)) fun l σ => (v :: l, σ)) fun l σ => (v :: l, σ)) fun l σ => (AV.tup l, σ)) fun v σ => mV (bV (mV (bV (some (AV.str 86, σ)) fun v σ => mV (bV (some (AV.int 1, σ)) fun v σ => mV (bV (some (AV.int 5, σ)) fun v σ => mV (some (([] : List AV), σ)) fun l σ => (v :: l, σ)) fun l σ => (v :: l, σ)) fun l σ => (v :: l, σ)) fun l σ => (AV.tup l, σ)) fun v σ => mV (some (([] : List AV), σ)) fun l σ => (v :: l, σ)) fun l σ => (v :: l, σ)) fun l σ => (v :: l, σ)) fun l σ => (v :: l, σ)) fun l σ => (v :: l, σ)) fun l σ => (v :: l, σ)) fun l σ => (AV.lst l, σ)) fun v σ => Out.next (put 0 (.val v) ρ) σ) fun ρ σ => bO (mV (mV (bV (rv 0 ρ σ) fun u σ => bV (mV (bV (mV (bV (some (AV.str 87, σ)) fun v σ => mV (bV (some (AV.int 4, σ)) fun v σ => mV (bV (some (AV.int 2, σ)) fun v σ => mV (bV (mV (bV (some (AV.int 3, σ)) fun v σ => mV (bV (some (AV.int 5, σ)) fun v σ => mV (some (([] : List AV), σ)) fun l σ => (v :: l, σ)) fun l σ => (v :: l, σ)) fun l σ => (AV.tup l, σ)) fun v σ => mV (some (([] : List AV), σ)) fun l σ => (v :: l, σ)) fun l σ => (v :: l, σ)) fun l σ => (v :: l, σ)) fun l σ => (v :: l, σ)) fun l σ => (AV.tup l, σ)) fun v σ => mV (bV (mV (bV (some (AV.str 55, σ)) fun v σ => mV (bV (some (AV.int 3, σ)) fun v σ => mV (bV (some (AV.int 1, σ)) fun v σ => mV (bV (mV (bV (some (AV.int 4, σ)) fun v σ => mV (bV (some (AV.int 5, σ)) fun v σ => mV (some (([] : List AV), σ)) fun l σ => (v :: l, σ)) fun l σ => (v :: l, σ)) fun l σ => (AV.tup l, σ)) fun v σ => mV (some (([] : List AV), σ)) fun l σ => (v :: l, σ)) fun l σ => (v :: l, σ)) fun l σ => (v :: l, σ)) fun l σ => (v :: l, σ)) fun l σ => (AV.tup l, σ)) fun v σ => mV (bV (mV (bV (some (AV.str 88, σ)) fun v σ => mV (bV (mV (bV (mV (bV (some (AV.int 4, σ)) fun v σ => mV (bV (some (AV.int 1, σ)) fun v σ => mV (bV (mV (bV (some (AV.int 3, σ)) fun v σ => mV (bV (some (AV.int 4, σ)) fun v σ => mV (some (([] : List AV), σ)) fun l σ => (v :: l, σ)) fun l σ => (v :: l, σ)) fun l σ => (AV.tup l, σ)) fun v σ => mV (some (([] : List AV), σ)) fun l σ => (v :: l, σ)) fun l σ => (v :: l, σ)) fun l σ => (v :: l, σ)) fun l σ => (AV.tup l, σ)) fun v σ => mV (bV (mV (bV (some (AV.int 5, σ)) fun v σ => mV (bV (some (AV.int 1, σ)) fun v σ => mV (bV (mV (bV (some (AV.int 4, σ)) fun v σ => mV (bV (some (AV.int 5, σ)) fun v σ => mV (some (([] : List AV), σ)) fun l σ => (v :: l, σ)) fun l σ => (v :: l, σ)) fun l σ => (AV.tup l, σ)) fun v σ => mV (some (([] : List AV), σ)) fun l σ => (v :: l, σ)) fun l σ => (v :: l, σ)) fun l σ => (v :: l, σ)) fun l σ => (AV.tup l, σ)) fun v σ => mV (some (([] : List AV), σ)) fun l σ => (v :: l, σ)) fun l σ => (v :: l, σ)) fun l σ => (AV.tup l, σ)) fun v σ => mV (some (([] : List AV), σ)) fun l σ => (v :: l, σ)) fun l σ => (v :: l, σ)) fun l σ => (AV.tup l, σ)) fun v σ => mV (some (([] : List AV), σ)) fun l σ => (v :: l, σ)) fun l σ => (v :: l, σ)) fun l σ => (v :: l, σ)) fun l σ => (AV.lst l, σ)) fun v σ => oCat u v σ) fun l σ => (AV.lst l, σ)) fun v σ => Out.next (put 0 (.val v) ρ) σ) fun ρ σ => bO (mV (mV (bV (rv 0 ρ σ) fun u σ => bV (mV (bV (mV (bV (some (AV.str 89, σ)) fun v σ => mV (bV (some (AV.int 4, σ)) fun v σ => mV (bV (some (AV.int 12, σ)) fun v σ => mV (some (([] : List AV), σ)) fun l σ => (v :: l, σ)) fun l σ => (v :: l, σ)) fun l σ => (v :: l, σ)) fun l σ => (AV.tup l, σ)) fun v σ => mV (bV (mV (bV (some (AV.str 90, σ)) fun v σ => mV (bV (some (AV.int 12, σ)) fun v σ => mV (some (([] : List AV), σ)) fun l σ => (v :: l, σ)) fun l σ => (v :: l, σ)) fun l σ => (AV.tup l, σ)) fun v σ => mV (bV (mV (bV (some (AV.str 91, σ)) fun v σ => mV (bV (some (AV.int 0, σ)) fun v σ => mV (bV (mV (bV (some (AV.int 3, σ)) fun v σ => mV (some (([] : List AV), σ)) fun l σ => (v :: l, σ)) fun l σ => (AV.tup l, σ)) fun v σ => mV (some (([] : List AV), σ)) fun l σ => (v :: l, σ)) fun l σ => (v :: l, σ)) fun l σ => (v :: l, σ)) fun l σ => (AV.tup l, σ)) fun v σ => mV (some (([] : List AV), σ)) fun l σ => (v :: l, σ)) fun l σ => (v :: l, σ)) fun l σ => (v :: l, σ)) fun l σ => (AV.lst l, σ)) fun v σ => oCat u v σ) fun l σ => (AV.lst l, σ)) fun v σ => Out.next (put 0 (.val v) ρ) σ) fun ρ σ => bO (mV (mV (bV (rv 0 ρ σ) fun u σ => bV (bV (bV (rv 92 ρ σ) fun u σ => bV (some (AV.int 0, σ)) fun v σ => mB (cmpV CO.eq u v) σ) fun v σ => (asB v).bind fun t => if t then mV (bV (mV (bV (some (AV.str 93, σ)) fun v σ => mV (bV (some (AV.int 3, σ)) fun v σ => mV (bV (some (AV.int 0, σ)) fun v σ => mV (bV (mV (bV (some (AV.int 4, σ)) fun v σ => mV (bV (some (AV.int 5, σ)) fun v σ => mV (some (([] : List AV), σ)) fun l σ => (v :: l, σ)) fun l σ => (v :: l, σ)) fun l σ => (AV.tup l, σ)) fun v σ => mV (some (([] : List AV), σ)) fun l σ => (v :: l, σ)) fun l σ => (v :: l, σ)) fun l σ => (v :: l, σ)) fun l σ => (v :: l, σ)) fun l σ => (AV.tup l, σ)) fun v σ => mV (some (([] : List AV), σ)) fun l σ => (v :: l, σ)) fun l σ => (AV.lst l, σ) else mV (bV (mV (bV (some (AV.str 91, σ)) fun v σ => mV (bV (some (AV.int 0, σ)) fun v σ => mV (bV (mV (bV (some (AV.int 1, σ)) fun v σ => mV (bV (some (AV.int 2, σ)) fun v σ => mV (bV (some (AV.int 4, σ)) fun v σ => mV (some (([] : List AV), σ)) fun l σ => (v :: l, σ)) fun l σ => (v :: l, σ)) fun l σ => (v :: l, σ)) fun l σ => (AV.tup l, σ)) fun v σ => mV (some (([] : List AV), σ)) fun l σ => (v :: l, σ)) fun l σ => (v :: l, σ)) fun l σ => (v :: l, σ)) fun l σ => (AV.tup l, σ)) fun v σ => mV (some (([] : List AV), σ)) fun l σ => (v :: l, σ)) fun l σ => (AV.lst l, σ)) fun v σ => oCat u v σ) fun l σ => (AV.lst l, σ)) fun v σ => Out.ret v σ) fun ρ σ => some (Out.next ρ σ))
theorem l_law_body (cf : Callf) : runF cf tb0 p_law_body b_law_body = s_law_body  := by kernel_rfl
noncomputable def n_law_body : Fn := s_law_body 
theorem e_law_body (m : Nat) : cfD (m + 1) k_law_body = n_law_body := by
  have h : cfD (m + 1) k_law_body = runF (cfD (m + 0)) tb0 p_law_body b_law_body := by kernel_rfl
  rw [h, l_law_body]
  rfl
noncomputable def s_law_led (l : List AV) (σ : Sto) : Option (AV × Sto) := (bindAll p_law_led l).bind fun ρ => fin (bO (bV (rv 96 ρ σ) (oU [95, 60] ρ)) fun ρ σ => bO (bV (mV (bV (bV (rv 97 ρ σ) fun u σ => bV (some (AV.int 0, σ)) fun v σ => mO (subV σ u v) σ) fun v σ => mV (bV (mV (bV (bV (rv 97 ρ σ) oT) (oC 98 ρ (fun (_ : Loc) (σ : Sto) => some (true, σ)) (fun ρ σ => bV (bV (rv 98 ρ σ) fun v σ => mB (isiV 0 v) σ) fun v σ => (asB v).bind fun t => if t then bV (rv 95 ρ σ) fun u σ => bV (rv 98 ρ σ) fun v σ => bV (rv 98 ρ σ) fun w σ => oG u v w σ else rv 98 ρ σ))) fun l σ => (AV.lst l, σ)) fun v σ => mV (some (([] : List AV), σ)) fun l σ => (v :: l, σ)) fun l σ => (v :: l, σ)) fun l σ => (AV.tup l, σ)) (oU [69, 28] ρ)) fun ρ σ => bO (mV (bV (rv 28 ρ σ) (oC 98 ρ (fun (_ : Loc) (σ : Sto) => some (true, σ)) (fun ρ σ => bV (bB true false (bV (rv 98 ρ σ) fun v σ => mB (isiV 2 v) σ) fun σ => bB true true (bV (rv 69 ρ σ) fun u σ => bV (some (AV.str 88, σ)) fun v σ => mB (cmpV CO.ne u v) σ) fun σ => (none : Option (AV × Sto))) fun v σ => (asB v).bind fun t => if t then bV (mV (bV (rv 98 ρ σ) (oC 43 ρ (fun (_ : Loc) (σ : Sto) => some (true, σ)) (fun ρ σ => bV (rv 95 ρ σ) fun u σ => bV (rv 43 ρ σ) fun v σ => bV (rv 43 ρ σ) fun w σ => oG u v w σ))) fun l σ => (AV.lst l, σ)) fun v σ => mO (tupOfV v) σ else rv 98 ρ σ))) fun l σ => Out.next (put 27 (.own l) ρ) σ) fun ρ σ => bO (bV (bV (rv 69 ρ σ) fun u σ => bV (some (AV.str 88, σ)) fun v σ => mB (cmpV CO.eq u v) σ) fun v σ => (asB v).bind fun t => if t then bO (mV (bV (bV (mV (bV (bV (rv 97 ρ σ) fun u σ => bV (some (AV.int 1, σ)) fun v σ => mO (subV σ u v) σ) (oC 29 ρ (fun (_ : Loc) (σ : Sto) => some (true, σ)) (fun ρ σ => mV (bV (bV (rv 95 ρ σ) fun u σ => bV (bV (rv 29 ρ σ) fun u σ => bV (some (AV.int 0, σ)) fun v σ => mO (subV σ u v) σ) fun v σ => mO (subV σ u v) σ) fun v σ => mV (bV (bV (rv 29 ρ σ) fun u σ => bV (some (AV.int 1, σ)) fun v σ => mO (subV σ u v) σ) fun v σ => mV (bV (bV (mV (bV (bV (rv 29 ρ σ) fun u σ => bV (some (AV.int 2, σ)) fun v σ => mO (subV σ u v) σ) (oC 43 ρ (fun (_ : Loc) (σ : Sto) => some (true, σ)) (fun ρ σ => bV (rv 95 ρ σ) fun u σ => bV (rv 43 ρ σ) fun v σ => mO (subV σ u v) σ))) fun l σ => (AV.lst l, σ)) fun v σ => mO (tupOfV v) σ) fun v σ => mV (some (([] : List AV), σ)) fun l σ => (v :: l, σ)) fun l σ => (v :: l, σ)) fun l σ => (v :: l, σ)) fun l σ => (AV.tup l, σ)))) fun l σ => (AV.lst l, σ)) fun v σ => mO (tupOfV v) σ) fun v σ => mV (some (([] : List AV), σ)) fun l σ => (v :: l, σ)) fun l σ => Out.next (put 27 (.own l) ρ) σ) fun ρ σ => some (Out.next ρ σ) else some (Out.next ρ σ)) fun ρ σ => bO (bV (bV (rv 69 ρ σ) fun u σ => bV (mV (bV (some (AV.str 83, σ)) fun v σ => mV (bV (some (AV.str 9, σ)) fun v σ => mV (bV (some (AV.str 50, σ)) fun v σ => mV (bV (some (AV.str 55, σ)) fun v σ => mV (bV (some (AV.str 87, σ)) fun v σ => mV (some (([] : List AV), σ)) fun l σ => (v :: l, σ)) fun l σ => (v :: l, σ)) fun l σ => (v :: l, σ)) fun l σ => (v :: l, σ)) fun l σ => (v :: l, σ)) fun l σ => (AV.tup l, σ)) fun v σ => mB (isinV u v) σ) fun v σ => (asB v).bind fun t => if t then bO (bV (bV (rv 97 ρ σ) fun u σ => bV (some (AV.int 2, σ)) fun v σ => mO (subV σ u v) σ) fun v σ => bV (some (AV.int 1, σ)) fun j σ => oSO ρ 27 v j σ) fun ρ σ => some (Out.next ρ σ) else some (Out.next ρ σ)) fun ρ σ => bO (bV (bV (rv 69 ρ σ) fun u σ => bV (mV (bV (some (AV.str 85, σ)) fun v σ => mV (bV (some (AV.str 86, σ)) fun v σ => mV (some (([] : List AV), σ)) fun l σ => (v :: l, σ)) fun l σ => (v :: l, σ)) fun l σ => (AV.tup l, σ)) fun v σ => mB (isinV u v) σ) fun v σ => (asB v).bind fun t => if t then bO (bV (bV (rv 97 ρ σ) fun u σ => bV (some (AV.int 1, σ)) fun v σ => mO (subV σ u v) σ) fun v σ => bV (some (AV.int 0, σ)) fun j σ => oSO ρ 27 v j σ) fun ρ σ => some (Out.next ρ σ) else some (Out.next ρ σ)) fun ρ σ => bO (bV (bB true false (bV (rv 69 ρ σ) fun u σ => bV (mV (bV (some (AV.str 90, σ)) fun v σ => mV (bV (some (AV.str 89, σ)) fun v σ => mV (some (([] : List AV), σ)) fun l σ => (v :: l, σ)) fun l σ => (v :: l, σ)) fun l σ => (AV.tup l, σ)) fun v σ => mB (isinV u v) σ) fun σ => bB true true (bV (bV (rv 97 ρ σ) fun v σ => mO (lenV v) σ) fun u σ => bV (some (AV.int 1, σ)) fun v σ => mB (cmpV CO.gt u v) σ) fun σ => (none : Option (AV × Sto))) fun v σ => (asB v).bind fun t => if t then bO (bV (bV (bV (rv 97 ρ σ) fun u σ => bV (some (AV.int (-1), σ)) fun v σ => mO (subV σ u v) σ) fun u σ => bV (rv 60 ρ σ) fun v σ => mO (binV BO.add u v) σ) fun v σ => bV (some (AV.int (-1), σ)) fun j σ => oSO ρ 27 v j σ) fun ρ σ => some (Out.next ρ σ) else some (Out.next ρ σ)) fun ρ σ => bO (oFz ρ 27 σ) fun ρ σ => bO (mV (bV (mV (bV (mV (bV (rv 69 ρ σ) fun v σ => mV (some (([] : List AV), σ)) fun l σ => (v :: l, σ)) fun l σ => (AV.lst l, σ)) fun u σ => bV (rv 27 ρ σ) fun v σ => oCat u v σ) fun l σ => (AV.lst l, σ)) fun v σ => mO (tupOfV v) σ) fun v σ => Out.ret v σ) fun ρ σ => some (Out.next ρ σ))
theorem l_law_led (cf : Callf) : runF cf tb0 p_law_led b_law_led = s_law_led  := by kernel_rfl
noncomputable def n_law_led : Fn := s_law_led 
theorem e_law_led (m : Nat) : cfD (m + 1) k_law_led = n_law_led := by
  have h : cfD (m + 1) k_law_led = runF (cfD (m + 0)) tb0 p_law_led b_law_led := by kernel_rfl
  rw [h, l_law_led]
  rfl
noncomputable def s_law_unit (c11 c94 c99 c17 : Fn) (l : List AV) (σ : Sto) : Option (AV × Sto) := (bindAll p_law_unit l).bind fun ρ => fin (bO (mV (mV (bV (mV (bV (some (AV.str 83, σ)) fun v σ => mV (bV (some (AV.int 1, σ)) fun v σ => mV (bV (some (AV.int 0, σ)) fun v σ => mV (some (([] : List AV), σ)) fun l σ => (v :: l, σ)) fun l σ => (v :: l, σ)) fun l σ => (v :: l, σ)) fun l σ => (AV.tup l, σ)) fun v σ => mV (bV (mV (bV (some (AV.str 55, σ)) fun v σ => mV (bV (some (AV.int 2, σ)) fun v σ => mV (bV (some (AV.int 1, σ)) fun v σ => mV (bV (mV (bV (some (AV.int 1, σ)) fun v σ => mV (bV (some (AV.int 1, σ)) fun v σ => mV (some (([] : List AV), σ)) fun l σ => (v :: l, σ)) fun l σ => (v :: l, σ)) fun l σ => (AV.tup l, σ)) fun v σ => mV (some (([] : List AV), σ)) fun l σ => (v :: l, σ)) fun l σ => (v :: l, σ)) fun l σ => (v :: l, σ)) fun l σ => (v :: l, σ)) fun l σ => (AV.tup l, σ)) fun v σ => mV (bV (mV (bV (some (AV.str 93, σ)) fun v σ => mV (bV (some (AV.int 2, σ)) fun v σ => mV (bV (some (AV.int 0, σ)) fun v σ => mV (bV (mV (bV (some (AV.int 1, σ)) fun v σ => mV (bV (some (AV.int 1, σ)) fun v σ => mV (some (([] : List AV), σ)) fun l σ => (v :: l, σ)) fun l σ => (v :: l, σ)) fun l σ => (AV.tup l, σ)) fun v σ => mV (some (([] : List AV), σ)) fun l σ => (v :: l, σ)) fun l σ => (v :: l, σ)) fun l σ => (v :: l, σ)) fun l σ => (v :: l, σ)) fun l σ => (AV.tup l, σ)) fun v σ => mV (some (([] : List AV), σ)) fun l σ => (v :: l, σ)) fun l σ => (v :: l, σ)) fun l σ => (v :: l, σ)) fun l σ => (AV.lst l, σ)) fun v σ => Out.next (put 16 (.val v) ρ) σ) fun ρ σ => bO (mV (bV (bV (bV (some (AV.int 0, σ)) fun v σ => mV (bV (some (AV.str 16, σ)) fun v σ => mV (bV (some (AV.int 0, σ)) fun v σ => mV (bV (some (AV.bool false, σ)) fun v σ => mV (bV (some (AV.bool false, σ)) fun v σ => mV (bV (some (AV.int 3, σ)) fun v σ => mV (bV (some (AV.int 0, σ)) fun v σ => mV (bV (rv 16 ρ σ) fun v σ => mV (some (([] : List AV), σ)) fun l σ => (v :: l, σ)) fun l σ => (v :: l, σ)) fun l σ => (v :: l, σ)) fun l σ => (v :: l, σ)) fun l σ => (v :: l, σ)) fun l σ => (v :: l, σ)) fun l σ => (v :: l, σ)) fun l σ => (v :: l, σ)) (oN 11 c11)) fun v σ => mV (some (([] : List AV), σ)) fun l σ => (v :: l, σ)) fun l σ => Out.next (put 27 (.own l) ρ) σ) fun ρ σ => bO (mV (mV (bV (mV (bV (mV (bV (some (AV.str 84, σ)) fun v σ => mV (bV (some (AV.int 1, σ)) fun v σ => mV (bV (some (AV.int 2, σ)) fun v σ => mV (some (([] : List AV), σ)) fun l σ => (v :: l, σ)) fun l σ => (v :: l, σ)) fun l σ => (v :: l, σ)) fun l σ => (AV.tup l, σ)) fun v σ => mV (some (([] : List AV), σ)) fun l σ => (v :: l, σ)) fun l σ => (AV.lst l, σ)) fun u σ => bV (bV (rv 96 ρ σ) fun u σ => bV (some (AV.int 1, σ)) fun v σ => mO (subV σ u v) σ) fun v σ => oRep u v σ) fun l σ => (AV.lst l, σ)) fun v σ => Out.next (put 62 (.val v) ρ) σ) fun ρ σ => bO (bV (mV (bV (some (AV.int 1, σ)) fun v σ => mV (bV (some (AV.int 2, σ)) fun v σ => mV (some (([] : List AV), σ)) fun l σ => (v :: l, σ)) fun l σ => (v :: l, σ)) fun l σ => (AV.tup l, σ)) fun v σ => (items v).bind fun L => forL (fun v ρ σ => (fun ρ => bO (mV (mV (bV (rv 62 ρ σ) fun u σ => bV (mV (bV (bV (bV (bV (rv 3 ρ σ) fun u σ => bV (some (AV.int 1, σ)) fun v σ => mO (binV BO.sub u v) σ) fun v σ => mV (some (([] : List AV), σ)) fun l σ => (v :: l, σ)) c94) (oC 97 ρ (fun (_ : Loc) (σ : Sto) => some (true, σ)) (fun ρ σ => bV (bV (rv 96 ρ σ) fun v σ => mV (bV (rv 97 ρ σ) fun v σ => mV (some (([] : List AV), σ)) fun l σ => (v :: l, σ)) fun l σ => (v :: l, σ)) c99))) fun l σ => (AV.lst l, σ)) fun v σ => oCat u v σ) fun l σ => (AV.lst l, σ)) fun v σ => Out.next (put 100 (.val v) ρ) σ) fun ρ σ => bO (bV (bV (bV (rv 3 ρ σ) fun v σ => mV (bV (some (AV.str 101, σ)) fun v σ => mV (bV (some (AV.int 2, σ)) fun v σ => mV (bV (bV (rv 3 ρ σ) fun u σ => bV (some (AV.int 2, σ)) fun v σ => mB (cmpV CO.eq u v) σ) fun v σ => mV (bV (bV (rv 3 ρ σ) fun u σ => bV (some (AV.int 2, σ)) fun v σ => mB (cmpV CO.eq u v) σ) fun v σ => mV (bV (some (AV.int 6, σ)) fun v σ => mV (bV (some (AV.int 2, σ)) fun v σ => mV (bV (rv 100 ρ σ) fun v σ => mV (some (([] : List AV), σ)) fun l σ => (v :: l, σ)) fun l σ => (v :: l, σ)) fun l σ => (v :: l, σ)) fun l σ => (v :: l, σ)) fun l σ => (v :: l, σ)) fun l σ => (v :: l, σ)) fun l σ => (v :: l, σ)) fun l σ => (v :: l, σ)) (oN 11 c11)) (oAp ρ 27)) fun ρ σ => some (Out.next ρ σ)) (put 3 (.val v) ρ)) L ρ σ) fun ρ σ => bO (oFz ρ 27 σ) fun ρ σ => bO (mV (bV (bV (rv 27 ρ σ) fun v σ => mV (bV (mV (bV (some (AV.int 7, σ)) fun v σ => mV (bV (some (AV.int 8, σ)) fun v σ => mV (some (([] : List AV), σ)) fun l σ => (v :: l, σ)) fun l σ => (v :: l, σ)) fun l σ => (AV.lst l, σ)) fun v σ => mV (bV (mV (bV (some (AV.int 3, σ)) fun v σ => mV (bV (some (AV.int 4, σ)) fun v σ => mV (some (([] : List AV), σ)) fun l σ => (v :: l, σ)) fun l σ => (v :: l, σ)) fun l σ => (AV.lst l, σ)) fun v σ => mV (bV (some (AV.int 0, σ)) fun v σ => mV (some (([] : List AV), σ)) fun l σ => (v :: l, σ)) fun l σ => (v :: l, σ)) fun l σ => (v :: l, σ)) fun l σ => (v :: l, σ)) (oN 17 c17)) fun v σ => Out.ret v σ) fun ρ σ => some (Out.next ρ σ))
theorem l_law_unit (cf : Callf) : runF cf tb0 p_law_unit b_law_unit = s_law_unit (cf 11) (cf 94) (cf 99) (cf 17) := by kernel_rfl
noncomputable def n_law_unit : Fn := s_law_unit n_Procedure n_law_body n_law_led n_Unit
theorem e_law_unit (m : Nat) : cfD (m + 2) k_law_unit = n_law_unit := by
  have h : cfD (m + 2) k_law_unit = runF (cfD (m + 1)) tb0 p_law_unit b_law_unit := by kernel_rfl
  have h11 : cfD (m + 1) 11 = n_Procedure := e_Procedure (m + 0)
  have h94 : cfD (m + 1) 94 = n_law_body := e_law_body (m + 0)
  have h99 : cfD (m + 1) 99 = n_law_led := e_law_led (m + 0)
  have h17 : cfD (m + 1) 17 = n_Unit := e_Unit (m + 0)
  rw [h, l_law_unit, h11, h94, h99, h17]
  rfl
noncomputable def s_law_put (c99 : Fn) (l : List AV) (σ : Sto) : Option (AV × Sto) := (bindAll p_law_put l).bind fun ρ => fin (bO (mV (bV (rv 36 ρ σ) fun u σ => bV (bV (rv 96 ρ σ) fun u σ => bV (some (AV.int 1, σ)) fun v σ => mO (subV σ u v) σ) fun v σ => mO (binV BO.add u v) σ) fun v σ => Out.next (put 103 (.val v) ρ) σ) fun ρ σ => bO (bV (mV (bV (mV (bV (mV (bV (bV (rv 28 ρ σ) (oA 10)) fun u σ => bV (some ((none : Option AV), σ)) fun l σ => bV (mV (rv 103 ρ σ) fun v σ => (some v, σ)) fun h σ => oSl u l h σ) fun l σ => (AV.lst l, σ)) fun u σ => bV (mV (bV (bV (bV (rv 96 ρ σ) fun v σ => mV (bV (rv 21 ρ σ) fun v σ => mV (some (([] : List AV), σ)) fun l σ => (v :: l, σ)) fun l σ => (v :: l, σ)) c99) fun v σ => mV (some (([] : List AV), σ)) fun l σ => (v :: l, σ)) fun l σ => (AV.lst l, σ)) fun v σ => oCat u v σ) fun l σ => (AV.lst l, σ)) fun u σ => bV (mV (bV (bV (rv 28 ρ σ) (oA 10)) fun u σ => bV (mV (bV (rv 103 ρ σ) fun u σ => bV (some (AV.int 1, σ)) fun v σ => mO (binV BO.add u v) σ) fun v σ => (some v, σ)) fun l σ => bV (some ((none : Option AV), σ)) fun h σ => oSl u l h σ) fun l σ => (AV.lst l, σ)) fun v σ => oCat u v σ) fun l σ => (AV.lst l, σ)) fun v σ => bV (rv 28 ρ σ) fun u σ => oSA ρ 10 v u σ) fun ρ σ => bO (mV (rv 103 ρ σ) fun v σ => Out.ret v σ) fun ρ σ => some (Out.next ρ σ))
theorem l_law_put (cf : Callf) : runF cf tb0 p_law_put b_law_put = s_law_put (cf 99) := by kernel_rfl
noncomputable def n_law_put : Fn := s_law_put n_law_led
theorem e_law_put (m : Nat) : cfD (m + 2) k_law_put = n_law_put := by
  have h : cfD (m + 2) k_law_put = runF (cfD (m + 1)) tb0 p_law_put b_law_put := by kernel_rfl
  have h99 : cfD (m + 1) 99 = n_law_led := e_law_led (m + 0)
  rw [h, l_law_put, h99]
  rfl
noncomputable def s_law_headed (l : List AV) (σ : Sto) : Option (AV × Sto) := (bindAll p_law_headed l).bind fun ρ => fin (bO (mV (bV (bV (rv 45 ρ σ) (oA 12)) fun u σ => bV (rv 3 ρ σ) fun v σ => mO (subV σ u v) σ) fun v σ => Out.next (put 28 (.val v) ρ) σ) fun ρ σ => bO (bV (bV (rv 105 ρ σ) fun u σ => bV (some (AV.int 0, σ)) fun v σ => mB (cmpV CO.eq u v) σ) fun v σ => (asB v).bind fun t => if t then bO (bV (some (AV.int 7, σ)) fun v σ => bV (rv 28 ρ σ) fun u σ => oSA ρ 3 v u σ) fun ρ σ => bO (mV (mV (bV (rv 3 ρ σ) fun v σ => mV (bV (some (AV.int (-1), σ)) fun v σ => mV (bV (some (AV.str 3, σ)) fun v σ => mV (some (([] : List AV), σ)) fun l σ => (v :: l, σ)) fun l σ => (v :: l, σ)) fun l σ => (v :: l, σ)) fun l σ => (AV.tup l, σ)) fun v σ => Out.ret v σ) fun ρ σ => some (Out.next ρ σ) else some (Out.next ρ σ)) fun ρ σ => bO (bV (bV (rv 105 ρ σ) fun u σ => bV (some (AV.int 1, σ)) fun v σ => mB (cmpV CO.eq u v) σ) fun v σ => (asB v).bind fun t => if t then bO (bV (some (AV.int 2, σ)) fun v σ => bV (rv 28 ρ σ) fun u σ => oSA ρ 8 v u σ) fun ρ σ => bO (mV (mV (bV (rv 3 ρ σ) fun v σ => mV (bV (some (AV.int (-1), σ)) fun v σ => mV (bV (some (AV.str 8, σ)) fun v σ => mV (some (([] : List AV), σ)) fun l σ => (v :: l, σ)) fun l σ => (v :: l, σ)) fun l σ => (v :: l, σ)) fun l σ => (AV.tup l, σ)) fun v σ => Out.ret v σ) fun ρ σ => some (Out.next ρ σ) else some (Out.next ρ σ)) fun ρ σ => bO (bV (bV (rv 105 ρ σ) fun u σ => bV (some (AV.int 2, σ)) fun v σ => mB (cmpV CO.eq u v) σ) fun v σ => (asB v).bind fun t => if t then bO (bV (mV (some (([] : List AV), σ)) fun l σ => (AV.lst l, σ)) fun v σ => bV (rv 28 ρ σ) fun u σ => oSA ρ 10 v u σ) fun ρ σ => bO (mV (mV (bV (rv 3 ρ σ) fun v σ => mV (bV (some (AV.int (-1), σ)) fun v σ => mV (bV (some (AV.str 67, σ)) fun v σ => mV (some (([] : List AV), σ)) fun l σ => (v :: l, σ)) fun l σ => (v :: l, σ)) fun l σ => (v :: l, σ)) fun l σ => (AV.tup l, σ)) fun v σ => Out.ret v σ) fun ρ σ => some (Out.next ρ σ) else some (Out.next ρ σ)) fun ρ σ => bO (bV (bV (rv 105 ρ σ) fun u σ => bV (some (AV.int 3, σ)) fun v σ => mB (cmpV CO.eq u v) σ) fun v σ => (asB v).bind fun t => if t then bO (bV (some (AV.int (-1), σ)) fun v σ => bV (rv 28 ρ σ) fun u σ => oSA ρ 5 v u σ) fun ρ σ => bO (mV (mV (bV (rv 3 ρ σ) fun v σ => mV (bV (some (AV.int (-1), σ)) fun v σ => mV (bV (some (AV.str 66, σ)) fun v σ => mV (some (([] : List AV), σ)) fun l σ => (v :: l, σ)) fun l σ => (v :: l, σ)) fun l σ => (v :: l, σ)) fun l σ => (AV.tup l, σ)) fun v σ => Out.ret v σ) fun ρ σ => some (Out.next ρ σ) else some (Out.next ρ σ)) fun ρ σ => bO (bV (bV (mV (bV (some (AV.int 3, σ)) fun v σ => mV (bV (some (AV.int 1, σ)) fun v σ => mV (bV (some (AV.int (-1), σ)) fun v σ => mV (some (([] : List AV), σ)) fun l σ => (v :: l, σ)) fun l σ => (v :: l, σ)) fun l σ => (v :: l, σ)) fun l σ => (AV.lst l, σ)) fun u σ => bV (rv 3 ρ σ) fun v σ => mO (subV σ u v) σ) fun v σ => bV (rv 45 ρ σ) fun u σ => oSA ρ 16 v u σ) fun ρ σ => bO (mV (mV (bV (some (AV.int (-1), σ)) fun v σ => mV (bV (some (AV.int (-1), σ)) fun v σ => mV (bV (some (AV.str 16, σ)) fun v σ => mV (some (([] : List AV), σ)) fun l σ => (v :: l, σ)) fun l σ => (v :: l, σ)) fun l σ => (v :: l, σ)) fun l σ => (AV.tup l, σ)) fun v σ => Out.ret v σ) fun ρ σ => some (Out.next ρ σ))
theorem l_law_headed (cf : Callf) : runF cf tb0 p_law_headed b_law_headed = s_law_headed  := by kernel_rfl
noncomputable def n_law_headed : Fn := s_law_headed 
theorem e_law_headed (m : Nat) : cfD (m + 1) k_law_headed = n_law_headed := by
  have h : cfD (m + 1) k_law_headed = runF (cfD (m + 0)) tb0 p_law_headed b_law_headed := by kernel_rfl
  rw [h, l_law_headed]
  rfl
noncomputable def s_law_operand (c104 : Fn) (l : List AV) (σ : Sto) : Option (AV × Sto) := (bindAll p_law_operand l).bind fun ρ => fin (bO (mV (mV (bV (mV (bV (some (AV.int 0, σ)) fun v σ => mV (bV (mV (bV (some (AV.str 83, σ)) fun v σ => mV (bV (some (AV.int 6, σ)) fun v σ => mV (bV (some (AV.int 1, σ)) fun v σ => mV (some (([] : List AV), σ)) fun l σ => (v :: l, σ)) fun l σ => (v :: l, σ)) fun l σ => (v :: l, σ)) fun l σ => (AV.tup l, σ)) fun v σ => mV (bV (some (AV.str 32, σ)) fun v σ => mV (some (([] : List AV), σ)) fun l σ => (v :: l, σ)) fun l σ => (v :: l, σ)) fun l σ => (v :: l, σ)) fun l σ => (AV.tup l, σ)) fun v σ => mV (bV (mV (bV (some (AV.int 0, σ)) fun v σ => mV (bV (mV (bV (some (AV.str 83, σ)) fun v σ => mV (bV (some (AV.int 3, σ)) fun v σ => mV (bV (some (AV.int 2, σ)) fun v σ => mV (some (([] : List AV), σ)) fun l σ => (v :: l, σ)) fun l σ => (v :: l, σ)) fun l σ => (v :: l, σ)) fun l σ => (AV.tup l, σ)) fun v σ => mV (bV (some (AV.str 49, σ)) fun v σ => mV (some (([] : List AV), σ)) fun l σ => (v :: l, σ)) fun l σ => (v :: l, σ)) fun l σ => (v :: l, σ)) fun l σ => (AV.tup l, σ)) fun v σ => mV (bV (mV (bV (some (AV.int 1, σ)) fun v σ => mV (bV (mV (bV (some (AV.str 84, σ)) fun v σ => mV (bV (some (AV.int 4, σ)) fun v σ => mV (bV (some (AV.int (-1), σ)) fun v σ => mV (some (([] : List AV), σ)) fun l σ => (v :: l, σ)) fun l σ => (v :: l, σ)) fun l σ => (v :: l, σ)) fun l σ => (AV.tup l, σ)) fun v σ => mV (bV (some (AV.str 24, σ)) fun v σ => mV (some (([] : List AV), σ)) fun l σ => (v :: l, σ)) fun l σ => (v :: l, σ)) fun l σ => (v :: l, σ)) fun l σ => (AV.tup l, σ)) fun v σ => mV (some (([] : List AV), σ)) fun l σ => (v :: l, σ)) fun l σ => (v :: l, σ)) fun l σ => (v :: l, σ)) fun l σ => (AV.lst l, σ)) fun v σ => Out.next (put 107 (.val v) ρ) σ) fun ρ σ => bO (mV (mV (bV (rv 107 ρ σ) fun u σ => bV (mV (bV (mV (bV (some (AV.int 2, σ)) fun v σ => mV (bV (mV (bV (some (AV.str 9, σ)) fun v σ => mV (bV (some (AV.int 5, σ)) fun v σ => mV (bV (some (AV.int 2, σ)) fun v σ => mV (some (([] : List AV), σ)) fun l σ => (v :: l, σ)) fun l σ => (v :: l, σ)) fun l σ => (v :: l, σ)) fun l σ => (AV.tup l, σ)) fun v σ => mV (bV (some (AV.str 9, σ)) fun v σ => mV (some (([] : List AV), σ)) fun l σ => (v :: l, σ)) fun l σ => (v :: l, σ)) fun l σ => (v :: l, σ)) fun l σ => (AV.tup l, σ)) fun v σ => mV (bV (mV (bV (some (AV.int 3, σ)) fun v σ => mV (bV (mV (bV (some (AV.str 50, σ)) fun v σ => mV (bV (some (AV.int 3, σ)) fun v σ => mV (bV (some (AV.int 2, σ)) fun v σ => mV (some (([] : List AV), σ)) fun l σ => (v :: l, σ)) fun l σ => (v :: l, σ)) fun l σ => (v :: l, σ)) fun l σ => (AV.tup l, σ)) fun v σ => mV (bV (some (AV.str 50, σ)) fun v σ => mV (some (([] : List AV), σ)) fun l σ => (v :: l, σ)) fun l σ => (v :: l, σ)) fun l σ => (v :: l, σ)) fun l σ => (AV.tup l, σ)) fun v σ => mV (bV (mV (bV (some (AV.int 6, σ)) fun v σ => mV (bV (mV (bV (some (AV.str 87, σ)) fun v σ => mV (bV (some (AV.int 4, σ)) fun v σ => mV (bV (some (AV.int 9, σ)) fun v σ => mV (bV (mV (bV (some (AV.int 3, σ)) fun v σ => mV (bV (some (AV.int 5, σ)) fun v σ => mV (some (([] : List AV), σ)) fun l σ => (v :: l, σ)) fun l σ => (v :: l, σ)) fun l σ => (AV.tup l, σ)) fun v σ => mV (some (([] : List AV), σ)) fun l σ => (v :: l, σ)) fun l σ => (v :: l, σ)) fun l σ => (v :: l, σ)) fun l σ => (v :: l, σ)) fun l σ => (AV.tup l, σ)) fun v σ => mV (bV (some (AV.str 51, σ)) fun v σ => mV (some (([] : List AV), σ)) fun l σ => (v :: l, σ)) fun l σ => (v :: l, σ)) fun l σ => (v :: l, σ)) fun l σ => (AV.tup l, σ)) fun v σ => mV (some (([] : List AV), σ)) fun l σ => (v :: l, σ)) fun l σ => (v :: l, σ)) fun l σ => (v :: l, σ)) fun l σ => (AV.lst l, σ)) fun v σ => oCat u v σ) fun l σ => (AV.lst l, σ)) fun v σ => Out.next (put 107 (.val v) ρ) σ) fun ρ σ => bO (mV (mV (bV (rv 107 ρ σ) fun u σ => bV (mV (bV (mV (bV (some (AV.int 7, σ)) fun v σ => mV (bV (mV (bV (some (AV.str 55, σ)) fun v σ => mV (bV (some (AV.int 3, σ)) fun v σ => mV (bV (some (AV.int 1, σ)) fun v σ => mV (bV (mV (bV (some (AV.int 4, σ)) fun v σ => mV (some (([] : List AV), σ)) fun l σ => (v :: l, σ)) fun l σ => (AV.tup l, σ)) fun v σ => mV (some (([] : List AV), σ)) fun l σ => (v :: l, σ)) fun l σ => (v :: l, σ)) fun l σ => (v :: l, σ)) fun l σ => (v :: l, σ)) fun l σ => (AV.tup l, σ)) fun v σ => mV (bV (some (AV.str 55, σ)) fun v σ => mV (some (([] : List AV), σ)) fun l σ => (v :: l, σ)) fun l σ => (v :: l, σ)) fun l σ => (v :: l, σ)) fun l σ => (AV.tup l, σ)) fun v σ => mV (bV (mV (bV (some (AV.int 7, σ)) fun v σ => mV (bV (mV (bV (some (AV.str 55, σ)) fun v σ => mV (bV (some (AV.int 3, σ)) fun v σ => mV (bV (some (AV.int 3, σ)) fun v σ => mV (bV (mV (bV (some (AV.int 4, σ)) fun v σ => mV (bV (some (AV.int 5, σ)) fun v σ => mV (some (([] : List AV), σ)) fun l σ => (v :: l, σ)) fun l σ => (v :: l, σ)) fun l σ => (AV.tup l, σ)) fun v σ => mV (some (([] : List AV), σ)) fun l σ => (v :: l, σ)) fun l σ => (v :: l, σ)) fun l σ => (v :: l, σ)) fun l σ => (v :: l, σ)) fun l σ => (AV.tup l, σ)) fun v σ => mV (bV (some (AV.str 18, σ)) fun v σ => mV (some (([] : List AV), σ)) fun l σ => (v :: l, σ)) fun l σ => (v :: l, σ)) fun l σ => (v :: l, σ)) fun l σ => (AV.tup l, σ)) fun v σ => mV (some (([] : List AV), σ)) fun l σ => (v :: l, σ)) fun l σ => (v :: l, σ)) fun l σ => (AV.lst l, σ)) fun v σ => oCat u v σ) fun l σ => (AV.lst l, σ)) fun v σ => Out.next (put 107 (.val v) ρ) σ) fun ρ σ => bO (mV (mV (bV (rv 107 ρ σ) fun u σ => bV (mV (bV (mV (bV (some (AV.int 8, σ)) fun v σ => mV (bV (mV (bV (some (AV.str 88, σ)) fun v σ => mV (bV (mV (bV (mV (bV (some (AV.int 4, σ)) fun v σ => mV (bV (some (AV.int 1, σ)) fun v σ => mV (bV (mV (bV (some (AV.int 3, σ)) fun v σ => mV (some (([] : List AV), σ)) fun l σ => (v :: l, σ)) fun l σ => (AV.tup l, σ)) fun v σ => mV (some (([] : List AV), σ)) fun l σ => (v :: l, σ)) fun l σ => (v :: l, σ)) fun l σ => (v :: l, σ)) fun l σ => (AV.tup l, σ)) fun v σ => mV (some (([] : List AV), σ)) fun l σ => (v :: l, σ)) fun l σ => (AV.tup l, σ)) fun v σ => mV (some (([] : List AV), σ)) fun l σ => (v :: l, σ)) fun l σ => (v :: l, σ)) fun l σ => (AV.tup l, σ)) fun v σ => mV (bV (some (AV.str 27, σ)) fun v σ => mV (some (([] : List AV), σ)) fun l σ => (v :: l, σ)) fun l σ => (v :: l, σ)) fun l σ => (v :: l, σ)) fun l σ => (AV.tup l, σ)) fun v σ => mV (bV (mV (bV (some (AV.int 8, σ)) fun v σ => mV (bV (mV (bV (some (AV.str 88, σ)) fun v σ => mV (bV (mV (bV (mV (bV (some (AV.int 4, σ)) fun v σ => mV (bV (some (AV.int 1, σ)) fun v σ => mV (bV (mV (bV (some (AV.int 3, σ)) fun v σ => mV (bV (some (AV.int 4, σ)) fun v σ => mV (some (([] : List AV), σ)) fun l σ => (v :: l, σ)) fun l σ => (v :: l, σ)) fun l σ => (AV.tup l, σ)) fun v σ => mV (some (([] : List AV), σ)) fun l σ => (v :: l, σ)) fun l σ => (v :: l, σ)) fun l σ => (v :: l, σ)) fun l σ => (AV.tup l, σ)) fun v σ => mV (bV (mV (bV (some (AV.int 4, σ)) fun v σ => mV (bV (some (AV.int 1, σ)) fun v σ => mV (bV (mV (bV (some (AV.int 4, σ)) fun v σ => mV (bV (some (AV.int 5, σ)) fun v σ => mV (some (([] : List AV), σ)) fun l σ => (v :: l, σ)) fun l σ => (v :: l, σ)) fun l σ => (AV.tup l, σ)) fun v σ => mV (some (([] : List AV), σ)) fun l σ => (v :: l, σ)) fun l σ => (v :: l, σ)) fun l σ => (v :: l, σ)) fun l σ => (AV.tup l, σ)) fun v σ => mV (some (([] : List AV), σ)) fun l σ => (v :: l, σ)) fun l σ => (v :: l, σ)) fun l σ => (AV.tup l, σ)) fun v σ => mV (some (([] : List AV), σ)) fun l σ => (v :: l, σ)) fun l σ => (v :: l, σ)) fun l σ => (AV.tup l, σ)) fun v σ => mV (bV (some (AV.str 27, σ)) fun v σ => mV (some (([] : List AV), σ)) fun l σ => (v :: l, σ)) fun l σ => (v :: l, σ)) fun l σ => (v :: l, σ)) fun l σ => (AV.tup l, σ)) fun v σ => mV (some (([] : List AV), σ)) fun l σ => (v :: l, σ)) fun l σ => (v :: l, σ)) fun l σ => (AV.lst l, σ)) fun v σ => oCat u v σ) fun l σ => (AV.lst l, σ)) fun v σ => Out.next (put 107 (.val v) ρ) σ) fun ρ σ => bO (mV (mV (bV (rv 107 ρ σ) fun u σ => bV (mV (bV (mV (bV (some (AV.int 9, σ)) fun v σ => mV (bV (mV (bV (some (AV.str 89, σ)) fun v σ => mV (bV (some (AV.int 4, σ)) fun v σ => mV (bV (some (AV.int 13, σ)) fun v σ => mV (some (([] : List AV), σ)) fun l σ => (v :: l, σ)) fun l σ => (v :: l, σ)) fun l σ => (v :: l, σ)) fun l σ => (AV.tup l, σ)) fun v σ => mV (bV (some (AV.str 34, σ)) fun v σ => mV (some (([] : List AV), σ)) fun l σ => (v :: l, σ)) fun l σ => (v :: l, σ)) fun l σ => (v :: l, σ)) fun l σ => (AV.tup l, σ)) fun v σ => mV (bV (mV (bV (some (AV.int 6, σ)) fun v σ => mV (bV (mV (bV (some (AV.str 87, σ)) fun v σ => mV (bV (some (AV.int 4, σ)) fun v σ => mV (bV (some (AV.int 2, σ)) fun v σ => mV (bV (mV (bV (some (AV.int 3, σ)) fun v σ => mV (bV (some (AV.int 6, σ)) fun v σ => mV (some (([] : List AV), σ)) fun l σ => (v :: l, σ)) fun l σ => (v :: l, σ)) fun l σ => (AV.tup l, σ)) fun v σ => mV (some (([] : List AV), σ)) fun l σ => (v :: l, σ)) fun l σ => (v :: l, σ)) fun l σ => (v :: l, σ)) fun l σ => (v :: l, σ)) fun l σ => (AV.tup l, σ)) fun v σ => mV (bV (some (AV.str 26, σ)) fun v σ => mV (some (([] : List AV), σ)) fun l σ => (v :: l, σ)) fun l σ => (v :: l, σ)) fun l σ => (v :: l, σ)) fun l σ => (AV.tup l, σ)) fun v σ => mV (bV (mV (bV (some (AV.int 10, σ)) fun v σ => mV (bV (mV (bV (some (AV.str 90, σ)) fun v σ => mV (some (([] : List AV), σ)) fun l σ => (v :: l, σ)) fun l σ => (AV.tup l, σ)) fun v σ => mV (bV (some (AV.str 54, σ)) fun v σ => mV (some (([] : List AV), σ)) fun l σ => (v :: l, σ)) fun l σ => (v :: l, σ)) fun l σ => (v :: l, σ)) fun l σ => (AV.tup l, σ)) fun v σ => mV (some (([] : List AV), σ)) fun l σ => (v :: l, σ)) fun l σ => (v :: l, σ)) fun l σ => (v :: l, σ)) fun l σ => (AV.lst l, σ)) fun v σ => oCat u v σ) fun l σ => (AV.lst l, σ)) fun v σ => Out.next (put 107 (.val v) ρ) σ) fun ρ σ => bO (mV (mV (bV (rv 107 ρ σ) fun u σ => bV (mV (bV (mV (bV (some (AV.int 11, σ)) fun v σ => mV (bV (mV (bV (some (AV.str 108, σ)) fun v σ => mV (bV (some (AV.int 0, σ)) fun v σ => mV (bV (mV (bV (some (AV.int 3, σ)) fun v σ => mV (some (([] : List AV), σ)) fun l σ => (v :: l, σ)) fun l σ => (AV.tup l, σ)) fun v σ => mV (some (([] : List AV), σ)) fun l σ => (v :: l, σ)) fun l σ => (v :: l, σ)) fun l σ => (v :: l, σ)) fun l σ => (AV.tup l, σ)) fun v σ => mV (bV (some (AV.str 21, σ)) fun v σ => mV (some (([] : List AV), σ)) fun l σ => (v :: l, σ)) fun l σ => (v :: l, σ)) fun l σ => (v :: l, σ)) fun l σ => (AV.tup l, σ)) fun v σ => mV (bV (mV (bV (some (AV.int 12, σ)) fun v σ => mV (bV (mV (bV (some (AV.str 84, σ)) fun v σ => mV (bV (some (AV.int 3, σ)) fun v σ => mV (bV (some (AV.int 4, σ)) fun v σ => mV (some (([] : List AV), σ)) fun l σ => (v :: l, σ)) fun l σ => (v :: l, σ)) fun l σ => (v :: l, σ)) fun l σ => (AV.tup l, σ)) fun v σ => mV (bV (some (AV.str 72, σ)) fun v σ => mV (some (([] : List AV), σ)) fun l σ => (v :: l, σ)) fun l σ => (v :: l, σ)) fun l σ => (v :: l, σ)) fun l σ => (AV.tup l, σ)) fun v σ => mV (some (([] : List AV), σ)) fun l σ => (v :: l, σ)) fun l σ => (v :: l, σ)) fun l σ => (AV.lst l, σ)) fun v σ => oCat u v σ) fun l σ => (AV.lst l, σ)) fun v σ => Out.next (put 107 (.val v) ρ) σ) fun ρ σ => bO (bV (bV (rv 107 ρ σ) fun u σ => bV (bV (rv 105 ρ σ) fun u σ => bV (bV (rv 107 ρ σ) fun v σ => mO (lenV v) σ) fun v σ => mO (binV BO.mod u v) σ) fun v σ => mO (subV σ u v) σ) (oU [36, 21, 69] ρ)) fun ρ σ => bO (mV (mV (bV (rv 3 ρ σ) fun v σ => mV (bV (bV (bV (rv 28 ρ σ) fun v σ => mV (bV (rv 96 ρ σ) fun v σ => mV (bV (rv 36 ρ σ) fun v σ => mV (bV (rv 21 ρ σ) fun v σ => mV (some (([] : List AV), σ)) fun l σ => (v :: l, σ)) fun l σ => (v :: l, σ)) fun l σ => (v :: l, σ)) fun l σ => (v :: l, σ)) c104) fun v σ => mV (bV (rv 69 ρ σ) fun v σ => mV (some (([] : List AV), σ)) fun l σ => (v :: l, σ)) fun l σ => (v :: l, σ)) fun l σ => (v :: l, σ)) fun l σ => (AV.tup l, σ)) fun v σ => Out.ret v σ) fun ρ σ => some (Out.next ρ σ))
theorem l_law_operand (cf : Callf) : runF cf tb0 p_law_operand b_law_operand = s_law_operand (cf 104) := by kernel_rfl
noncomputable def n_law_operand : Fn := s_law_operand n_law_put
theorem e_law_operand (m : Nat) : cfD (m + 3) k_law_operand = n_law_operand := by
  have h : cfD (m + 3) k_law_operand = runF (cfD (m + 2)) tb0 p_law_operand b_law_operand := by kernel_rfl
  have h104 : cfD (m + 2) 104 = n_law_put := e_law_put (m + 0)
  rw [h, l_law_operand, h104]
  rfl
noncomputable def s_law_early (c104 : Fn) (l : List AV) (σ : Sto) : Option (AV × Sto) := (bindAll p_law_early l).bind fun ρ => fin (bO (bV (bV (rv 105 ρ σ) fun u σ => bV (some (AV.int 0, σ)) fun v σ => mB (cmpV CO.eq u v) σ) fun v σ => (asB v).bind fun t => if t then bO (mV (mV (bV (rv 3 ρ σ) fun v σ => mV (bV (bV (bV (bV (rv 28 ρ σ) fun v σ => mV (bV (rv 96 ρ σ) fun v σ => mV (bV (some (AV.int 2, σ)) fun v σ => mV (bV (mV (bV (some (AV.str 90, σ)) fun v σ => mV (bV (some (AV.int 6, σ)) fun v σ => mV (some (([] : List AV), σ)) fun l σ => (v :: l, σ)) fun l σ => (v :: l, σ)) fun l σ => (AV.tup l, σ)) fun v σ => mV (some (([] : List AV), σ)) fun l σ => (v :: l, σ)) fun l σ => (v :: l, σ)) fun l σ => (v :: l, σ)) fun l σ => (v :: l, σ)) c104) fun u σ => bV (some (AV.int 4, σ)) fun v σ => mO (binV BO.add u v) σ) fun v σ => mV (bV (some (AV.str 73, σ)) fun v σ => mV (some (([] : List AV), σ)) fun l σ => (v :: l, σ)) fun l σ => (v :: l, σ)) fun l σ => (v :: l, σ)) fun l σ => (AV.tup l, σ)) fun v σ => Out.ret v σ) fun ρ σ => some (Out.next ρ σ) else some (Out.next ρ σ)) fun ρ σ => bO (bV (bV (rv 105 ρ σ) fun u σ => bV (some (AV.int 1, σ)) fun v σ => mB (cmpV CO.eq u v) σ) fun v σ => (asB v).bind fun t => if t then bO (mV (mV (bV (rv 3 ρ σ) fun v σ => mV (bV (bV (bV (bV (rv 28 ρ σ) fun v σ => mV (bV (rv 96 ρ σ) fun v σ => mV (bV (some (AV.int 0, σ)) fun v σ => mV (bV (mV (bV (some (AV.str 89, σ)) fun v σ => mV (bV (some (AV.int 1, σ)) fun v σ => mV (bV (some (AV.int 12, σ)) fun v σ => mV (some (([] : List AV), σ)) fun l σ => (v :: l, σ)) fun l σ => (v :: l, σ)) fun l σ => (v :: l, σ)) fun l σ => (AV.tup l, σ)) fun v σ => mV (some (([] : List AV), σ)) fun l σ => (v :: l, σ)) fun l σ => (v :: l, σ)) fun l σ => (v :: l, σ)) fun l σ => (v :: l, σ)) c104) fun u σ => bV (some (AV.int 1, σ)) fun v σ => mO (binV BO.add u v) σ) fun v σ => mV (bV (some (AV.str 73, σ)) fun v σ => mV (some (([] : List AV), σ)) fun l σ => (v :: l, σ)) fun l σ => (v :: l, σ)) fun l σ => (v :: l, σ)) fun l σ => (AV.tup l, σ)) fun v σ => Out.ret v σ) fun ρ σ => some (Out.next ρ σ) else some (Out.next ρ σ)) fun ρ σ => bO (bV (bV (bV (rv 28 ρ σ) fun v σ => mV (bV (rv 96 ρ σ) fun v σ => mV (bV (some (AV.int 8, σ)) fun v σ => mV (bV (mV (bV (some (AV.str 88, σ)) fun v σ => mV (bV (mV (bV (mV (bV (some (AV.int 4, σ)) fun v σ => mV (bV (some (AV.int 1, σ)) fun v σ => mV (bV (mV (bV (some (AV.int 3, σ)) fun v σ => mV (bV (some (AV.int 4, σ)) fun v σ => mV (some (([] : List AV), σ)) fun l σ => (v :: l, σ)) fun l σ => (v :: l, σ)) fun l σ => (AV.tup l, σ)) fun v σ => mV (some (([] : List AV), σ)) fun l σ => (v :: l, σ)) fun l σ => (v :: l, σ)) fun l σ => (v :: l, σ)) fun l σ => (AV.tup l, σ)) fun v σ => mV (some (([] : List AV), σ)) fun l σ => (v :: l, σ)) fun l σ => (AV.tup l, σ)) fun v σ => mV (some (([] : List AV), σ)) fun l σ => (v :: l, σ)) fun l σ => (v :: l, σ)) fun l σ => (AV.tup l, σ)) fun v σ => mV (some (([] : List AV), σ)) fun l σ => (v :: l, σ)) fun l σ => (v :: l, σ)) fun l σ => (v :: l, σ)) fun l σ => (v :: l, σ)) c104) (oE ρ)) fun ρ σ => bO (mV (mV (bV (rv 3 ρ σ) fun v σ => mV (bV (bV (bV (bV (rv 28 ρ σ) fun v σ => mV (bV (rv 96 ρ σ) fun v σ => mV (bV (some (AV.int 2, σ)) fun v σ => mV (bV (mV (bV (some (AV.str 84, σ)) fun v σ => mV (bV (some (AV.int 4, σ)) fun v σ => mV (bV (some (AV.int 3, σ)) fun v σ => mV (some (([] : List AV), σ)) fun l σ => (v :: l, σ)) fun l σ => (v :: l, σ)) fun l σ => (v :: l, σ)) fun l σ => (AV.tup l, σ)) fun v σ => mV (some (([] : List AV), σ)) fun l σ => (v :: l, σ)) fun l σ => (v :: l, σ)) fun l σ => (v :: l, σ)) fun l σ => (v :: l, σ)) c104) fun u σ => bV (some (AV.int 3, σ)) fun v σ => mO (binV BO.add u v) σ) fun v σ => mV (bV (some (AV.str 73, σ)) fun v σ => mV (some (([] : List AV), σ)) fun l σ => (v :: l, σ)) fun l σ => (v :: l, σ)) fun l σ => (v :: l, σ)) fun l σ => (AV.tup l, σ)) fun v σ => Out.ret v σ) fun ρ σ => some (Out.next ρ σ))
theorem l_law_early (cf : Callf) : runF cf tb0 p_law_early b_law_early = s_law_early (cf 104) := by kernel_rfl
noncomputable def n_law_early : Fn := s_law_early n_law_put
theorem e_law_early (m : Nat) : cfD (m + 3) k_law_early = n_law_early := by
  have h : cfD (m + 3) k_law_early = runF (cfD (m + 2)) tb0 p_law_early b_law_early := by kernel_rfl
  have h104 : cfD (m + 2) 104 = n_law_put := e_law_put (m + 0)
  rw [h, l_law_early, h104]
  rfl
noncomputable def s_law (c79 c82 c102 c77 c106 c109 c110 : Fn) (l : List AV) (σ : Sto) : Option (AV × Sto) := (bindAll p_law l).bind fun ρ => fin (bO (mV (bV (bV (rv 78 ρ σ) fun v σ => mV (some (([] : List AV), σ)) fun l σ => (v :: l, σ)) c79) fun v σ => Out.next (put 80 (.val v) ρ) σ) fun ρ σ => bO (bV (mV (bV (bV (bV (rv 80 ρ σ) fun v σ => mV (bV (some (AV.int 23, σ)) fun v σ => mV (some (([] : List AV), σ)) fun l σ => (v :: l, σ)) fun l σ => (v :: l, σ)) c82) fun v σ => mV (bV (bV (some (AV.int 1, σ)) fun u σ => bV (bV (bV (rv 80 ρ σ) fun v σ => mV (bV (some (AV.int 2, σ)) fun v σ => mV (some (([] : List AV), σ)) fun l σ => (v :: l, σ)) fun l σ => (v :: l, σ)) c82) fun v σ => mO (binV BO.add u v) σ) fun v σ => mV (bV (bV (bV (rv 80 ρ σ) fun v σ => mV (bV (some (AV.int 6, σ)) fun v σ => mV (some (([] : List AV), σ)) fun l σ => (v :: l, σ)) fun l σ => (v :: l, σ)) c82) fun v σ => mV (some (([] : List AV), σ)) fun l σ => (v :: l, σ)) fun l σ => (v :: l, σ)) fun l σ => (v :: l, σ)) fun l σ => (AV.tup l, σ)) (oU [105, 3, 111] ρ)) fun ρ σ => bO (mV (mV (bV (mV (bV (some (AV.int 3, σ)) fun v σ => mV (bV (some (AV.int 4, σ)) fun v σ => mV (bV (some (AV.int 5, σ)) fun v σ => mV (some (([] : List AV), σ)) fun l σ => (v :: l, σ)) fun l σ => (v :: l, σ)) fun l σ => (v :: l, σ)) fun l σ => (AV.tup l, σ)) (oC 43 ρ (fun ρ σ => bV (bV (rv 43 ρ σ) fun u σ => bV (bV (some (AV.int 3, σ)) fun u σ => bV (bV (rv 111 ρ σ) fun u σ => bV (some (AV.int 3, σ)) fun v σ => mO (binV BO.mod u v) σ) fun v σ => mO (binV BO.add u v) σ) fun v σ => mB (cmpV CO.ne u v) σ) fun v σ => (asB v).map fun b => (b, σ)) (fun ρ σ => rv 43 ρ σ))) fun l σ => (AV.lst l, σ)) fun v σ => Out.next (put 112 (.val v) ρ) σ) fun ρ σ => bO (mV (bV (bV (some (AV.int 3, σ)) fun v σ => mV (bV (bV (some (AV.int 3, σ)) fun u σ => bV (bV (rv 111 ρ σ) fun u σ => bV (some (AV.int 3, σ)) fun v σ => mO (binV BO.mod u v) σ) fun v σ => mO (binV BO.add u v) σ) fun v σ => mV (bV (some (AV.int 4, σ)) fun v σ => mV (bV (bV (rv 112 ρ σ) fun u σ => bV (bV (rv 111 ρ σ) fun u σ => bV (some (AV.int 3, σ)) fun v σ => mO (binV BO.fdiv u v) σ) fun v σ => mO (subV σ u v) σ) fun v σ => mV (bV (some (AV.int 5, σ)) fun v σ => mV (bV (bV (rv 112 ρ σ) fun u σ => bV (bV (some (AV.int 1, σ)) fun u σ => bV (bV (rv 111 ρ σ) fun u σ => bV (some (AV.int 3, σ)) fun v σ => mO (binV BO.fdiv u v) σ) fun v σ => mO (binV BO.sub u v) σ) fun v σ => mO (subV σ u v) σ) fun v σ => mV (some (([] : List AV), σ)) fun l σ => (v :: l, σ)) fun l σ => (v :: l, σ)) fun l σ => (v :: l, σ)) fun l σ => (v :: l, σ)) fun l σ => (v :: l, σ)) fun l σ => (v :: l, σ)) oD) fun v σ => Out.next (put 95 (.val v) ρ) σ) fun ρ σ => bO (mV (mV (bV (rv 95 ρ σ) fun v σ => mV (bV (bV (bV (rv 80 ρ σ) fun v σ => mV (bV (some (AV.int 9, σ)) fun v σ => mV (some (([] : List AV), σ)) fun l σ => (v :: l, σ)) fun l σ => (v :: l, σ)) c82) fun v σ => mV (some (([] : List AV), σ)) fun l σ => (v :: l, σ)) fun l σ => (v :: l, σ)) fun l σ => (AV.tup l, σ)) fun v σ => Out.next (put 96 (.val v) ρ) σ) fun ρ σ => bO (mV (bV (bV (rv 96 ρ σ) fun v σ => mV (some (([] : List AV), σ)) fun l σ => (v :: l, σ)) c102) fun v σ => Out.next (put 45 (.val v) ρ) σ) fun ρ σ => bO (bV (mV (bV (bV (rv 45 ρ σ) fun v σ => mV (bV (some (AV.int 3, σ)) fun v σ => mV (some (([] : List AV), σ)) fun l σ => (v :: l, σ)) fun l σ => (v :: l, σ)) c77) fun v σ => (AV.bool (match v with | .none => false | _ => true), σ)) fun v σ => (asB v).bind fun t => if t then bO (mV (some (AV.bool false, σ)) fun v σ => Out.ret v σ) fun ρ σ => some (Out.next ρ σ) else some (Out.next ρ σ)) fun ρ σ => bO (mV (bV (bV (rv 45 ρ σ) (oA 12)) fun u σ => bV (rv 3 ρ σ) fun v σ => mO (subV σ u v) σ) fun v σ => Out.next (put 28 (.val v) ρ) σ) fun ρ σ => bO (bV (bV (rv 105 ρ σ) fun u σ => bV (some (AV.int 5, σ)) fun v σ => mB (cmpV CO.lt u v) σ) fun v σ => (asB v).bind fun t => if t then bO (mV (bV (bV (rv 45 ρ σ) fun v σ => mV (bV (rv 105 ρ σ) fun v σ => mV (bV (bV (bV (rv 105 ρ σ) fun u σ => bV (some (AV.int 4, σ)) fun v σ => mB (cmpV CO.lt u v) σ) fun v σ => (asB v).bind fun t => if t then rv 3 ρ σ else bV (bV (rv 80 ρ σ) fun v σ => mV (bV (some (AV.int 3, σ)) fun v σ => mV (some (([] : List AV), σ)) fun l σ => (v :: l, σ)) fun l σ => (v :: l, σ)) c82) fun v σ => mV (some (([] : List AV), σ)) fun l σ => (v :: l, σ)) fun l σ => (v :: l, σ)) fun l σ => (v :: l, σ)) c106) fun v σ => Out.next (put 113 (.val v) ρ) σ) fun ρ σ => some (Out.next ρ σ) else bO (bV (bV (rv 105 ρ σ) fun u σ => bV (some (AV.int 20, σ)) fun v σ => mB (cmpV CO.lt u v) σ) fun v σ => (asB v).bind fun t => if t then bO (mV (bV (bV (rv 28 ρ σ) fun v σ => mV (bV (rv 96 ρ σ) fun v σ => mV (bV (bV (rv 105 ρ σ) fun u σ => bV (some (AV.int 5, σ)) fun v σ => mO (binV BO.sub u v) σ) fun v σ => mV (bV (rv 3 ρ σ) fun v σ => mV (some (([] : List AV), σ)) fun l σ => (v :: l, σ)) fun l σ => (v :: l, σ)) fun l σ => (v :: l, σ)) fun l σ => (v :: l, σ)) c109) fun v σ => Out.next (put 113 (.val v) ρ) σ) fun ρ σ => some (Out.next ρ σ) else bO (mV (bV (bV (rv 28 ρ σ) fun v σ => mV (bV (rv 96 ρ σ) fun v σ => mV (bV (bV (rv 105 ρ σ) fun u σ => bV (some (AV.int 20, σ)) fun v σ => mO (binV BO.sub u v) σ) fun v σ => mV (bV (rv 3 ρ σ) fun v σ => mV (some (([] : List AV), σ)) fun l σ => (v :: l, σ)) fun l σ => (v :: l, σ)) fun l σ => (v :: l, σ)) fun l σ => (v :: l, σ)) c110) fun v σ => Out.next (put 113 (.val v) ρ) σ) fun ρ σ => some (Out.next ρ σ)) fun ρ σ => some (Out.next ρ σ)) fun ρ σ => bO (mV (bB true false (bV (bV (bV (rv 45 ρ σ) fun v σ => mV (bV (some (AV.int 3, σ)) fun v σ => mV (some (([] : List AV), σ)) fun l σ => (v :: l, σ)) fun l σ => (v :: l, σ)) c77) fun u σ => bV (rv 113 ρ σ) fun v σ => mB (cmpV CO.eq u v) σ) fun σ => bB true true (mV (bV (bV (bV (bV (rv 96 ρ σ) fun v σ => mV (some (([] : List AV), σ)) fun l σ => (v :: l, σ)) c102) fun v σ => mV (bV (some (AV.int 3, σ)) fun v σ => mV (some (([] : List AV), σ)) fun l σ => (v :: l, σ)) fun l σ => (v :: l, σ)) c77) fun v σ => (AV.bool (match v with | .none => true | _ => false), σ)) fun σ => (none : Option (AV × Sto))) fun v σ => Out.ret v σ) fun ρ σ => some (Out.next ρ σ))
theorem l_law (cf : Callf) : runF cf tb0 p_law b_law = s_law (cf 79) (cf 82) (cf 102) (cf 77) (cf 106) (cf 109) (cf 110) := by kernel_rfl
noncomputable def n_law : Fn := s_law n_law_pot n_law_dip n_law_unit n_unit_error n_law_headed n_law_operand n_law_early
theorem e_law (m : Nat) : cfD (m + 10) k_law = n_law := by
  have h : cfD (m + 10) k_law = runF (cfD (m + 9)) tb0 p_law b_law := by kernel_rfl
  have h79 : cfD (m + 9) 79 = n_law_pot := e_law_pot (m + 8)
  have h82 : cfD (m + 9) 82 = n_law_dip := e_law_dip (m + 8)
  have h102 : cfD (m + 9) 102 = n_law_unit := e_law_unit (m + 7)
  have h77 : cfD (m + 9) 77 = n_unit_error := e_unit_error (m + 0)
  have h106 : cfD (m + 9) 106 = n_law_headed := e_law_headed (m + 8)
  have h109 : cfD (m + 9) 109 = n_law_operand := e_law_operand (m + 6)
  have h110 : cfD (m + 9) 110 = n_law_early := e_law_early (m + 6)
  rw [h, l_law, h79, h82, h102, h77, h106, h109, h110]
  rfl
end Mine
/-! part NQ -/
namespace Mine
open PySem

/-! symbolic running -/
section
variable {α β : Type} {σ : Sto} {ρ : Loc}
theorem bV_some {a : α} {k : α → Sto → Option β} : bV (some (a, σ)) k = k a σ := rfl
theorem mV_some {a : α} {k : α → Sto → β} : mV (some (a, σ)) k = some (k a σ) := rfl
theorem bO_next {k : Loc → Sto → Option Out} : bO (some (.next ρ σ)) k = k ρ σ := rfl
theorem bO_ret {a : AV} {k : Loc → Sto → Option Out} : bO (some (.ret a σ)) k = some (.ret a σ) := rfl
theorem fin_next : fin (some (.next ρ σ)) = some (.none, σ) := rfl
theorem fin_ret {a : AV} : fin (some (.ret a σ)) = some (a, σ) := rfl
theorem mO_some {a : AV} : mO (some a) σ = some (a, σ) := rfl
theorem mB_some {b : Bool} : mB (some b) σ = some (.bool b, σ) := rfl
theorem mN_some {b : Bool} : mN (some b) σ = some (.bool (!b), σ) := rfl
theorem asB_bool {b : Bool} : asB (.bool b) = some b := rfl
theorem bB_last {isAnd b : Bool} {k : Sto → Option (AV × Sto)} : bB isAnd true (some (.bool b, σ)) k = some (.bool b, σ) := rfl
theorem bB_andF {k : Sto → Option (AV × Sto)} : bB true false (some (.bool false, σ)) k = some (.bool false, σ) := rfl
theorem bB_andT {k : Sto → Option (AV × Sto)} : bB true false (some (.bool true, σ)) k = k σ := rfl
theorem bB_orT {k : Sto → Option (AV × Sto)} : bB false false (some (.bool true, σ)) k = some (.bool true, σ) := rfl
theorem bB_orF {k : Sto → Option (AV × Sto)} : bB false false (some (.bool false, σ)) k = k σ := rfl
theorem rv_cons_eq {k : Nat} {a : AV} {r : Loc} : rv k ((k, .val a) :: r) σ = some (a, σ) := by unfold rv look; rw [if_pos rfl]
theorem rv_cons_ne {j k : Nat} {v : LV} {r : Loc} (h : j ≠ k) : rv k ((j, v) :: r) σ = rv k r σ := by
  unfold rv
  have : look k ((j, v) :: r) = look k r := if_neg h
  rw [this]
theorem rv_put_eq {k : Nat} {a : AV} : rv k (put k (.val a) ρ) σ = some (a, σ) := by
  unfold rv
  have : look k (put k (.val a) ρ) = some (.val a) := by rw [look_put, if_pos rfl]
  rw [this]
theorem rv_put_ne {j k : Nat} {v : LV} (h : j ≠ k) : rv k (put j v ρ) σ = rv k ρ σ := by
  unfold rv
  have : look k (put j v ρ) = look k ρ := by rw [look_put, if_neg (Ne.symm h)]
  rw [this]
theorem rv_of {k : Nat} {a : AV} (h : look k ρ = some (.val a)) (σ : Sto) : rv k ρ σ = some (a, σ) := by unfold rv; rw [h]
theorem bL_put_eq {k : Nat} {l : List AV} {f : List AV → Option β} : bL k (put k (.own l) ρ) f = f l := by
  unfold bL
  have : look k (put k (.own l) ρ) = some (.own l) := by rw [look_put, if_pos rfl]
  rw [this]
theorem bL_of {k : Nat} {l : List AV} {f : List AV → Option β} (h : look k ρ = some (.own l)) : bL k ρ f = f l := by unfold bL; rw [h]
noncomputable def fldO (k : Nat) (o : Option AO) (σ : Sto) : Option (AV × Sto) := match o with
  | some (.inst _ fs) => (field k fs).map fun a => (a, σ)
  | _ => none
theorem oA_obj {k i : Nat} : oA k (.obj i) σ = fldO k σ[i]? σ := rfl
theorem fldO_some {k c : Nat} {fs : List (Nat × AV)} : fldO k (some (.inst c fs)) σ = (field k fs).map fun a => (a, σ) := rfl
theorem look_cons_eq {k : Nat} {v : LV} {r : Loc} : look k ((k, v) :: r) = some v := if_pos rfl
theorem look_cons_ne {j k : Nat} {v : LV} {r : Loc} (h : j ≠ k) : look k ((j, v) :: r) = look k r := if_neg h
theorem field_cons_eq {k : Nat} {v : AV} {r : List (Nat × AV)} : field k ((k, v) :: r) = some v := if_pos rfl
theorem field_cons_ne {j k : Nat} {v : AV} {r : List (Nat × AV)} (h : j ≠ k) : field k ((j, v) :: r) = field k r := if_neg h
theorem look_put_ne {j k : Nat} {u : LV} (h : j ≠ k) : look k (put j u ρ) = look k ρ := by rw [look_put, if_neg (Ne.symm h)]
theorem look_put_eq {k : Nat} {u : LV} : look k (put k u ρ) = some u := by rw [look_put, if_pos rfl]
theorem asB_map {b : Bool} {f : Bool → α} : (asB (.bool b)).map f = some (f b) := rfl
theorem asB_bind {b : Bool} {f : Bool → Option α} : (asB (.bool b)).bind f = f b := rfl
theorem iteT {x y : α} : (if true = true then x else y) = x := if_pos rfl
theorem iteF {x y : α} : (if false = true then x else y) = y := if_neg (by decide)
theorem lenV_tup {l : List AV} (h : fits l = true) : lenV (.tup l) = some (.int l.length) := by
  show (if fits l then some (AV.int l.length) else none) = _
  rw [if_pos h]
theorem lenV_lst {l : List AV} (h : fits l = true) : lenV (.lst l) = some (.int l.length) := by
  show (if fits l then some (AV.int l.length) else none) = _
  rw [if_pos h]
theorem fits_of {l : List AV} (h : l.length ≤ 1000000) : fits l = true := by unfold fits sizeLim; exact decide_eq_true h
theorem fits_nil : fits [] = true := rfl
theorem fits_cons {a : AV} {l : List AV} (h : (a :: l).length ≤ 1000000) : fits (a :: l) = true := fits_of h
theorem oF2_lst {t u : Nat} {b : Loc → Sto → Option Out} {L : List AV} : oF2 t u ρ b (.lst L) σ = forL (fun v ρ σ => match v with
    | .tup l => (putAll [t, u] l ρ).bind fun ρ => b ρ σ
    | _ => none) L ρ σ := rfl
end
theorem is_count_int (v : Int) (σ : Sto) : n_is_count [.int v] σ = some (.bool (decide (0 ≤ v)), σ) := by
  simp [n_is_count, s_is_count, p_is_count, bindAll, isiV, cmpV, bV_some, mV_some, bO_next, bO_ret, fin_next, fin_ret, mO_some, mB_some, mN_some, asB_bool, bB_last, bB_andF, bB_andT, bB_orT, bB_orF, rv_cons_eq, rv_cons_ne, rv_put_eq, rv_put_ne, bL_put_eq, oA_obj, fldO_some, asB_map, asB_bind, look_cons_eq, look_cons_ne, field_cons_eq, field_cons_ne, look_put_ne, look_put_eq, iteT, iteF, lenV_tup, lenV_lst]
theorem is_below_int (v b : Int) (σ : Sto) : n_is_below [.int v, .int b] σ = some (.bool (decide (0 ≤ v) && decide (v < b)), σ) := by
  unfold n_is_below s_is_below
  by_cases h : 0 ≤ v
  · simp [p_is_below, is_count_int, bindAll, h, cmpV, bV_some, mV_some, bO_next, bO_ret, fin_next, fin_ret, mO_some, mB_some, mN_some, asB_bool, bB_last, bB_andF, bB_andT, bB_orT, bB_orF, rv_cons_eq, rv_cons_ne, rv_put_eq, rv_put_ne, bL_put_eq, oA_obj, fldO_some, asB_map, asB_bind, look_cons_eq, look_cons_ne, field_cons_eq, field_cons_ne, look_put_ne, look_put_eq, iteT, iteF, lenV_tup, lenV_lst]
  · simp [p_is_below, is_count_int, bindAll, h, cmpV, bV_some, mV_some, bO_next, bO_ret, fin_next, fin_ret, mO_some, mB_some, mN_some, asB_bool, bB_last, bB_andF, bB_andT, bB_orT, bB_orF, rv_cons_eq, rv_cons_ne, rv_put_eq, rv_put_ne, bL_put_eq, oA_obj, fldO_some, asB_map, asB_bind, look_cons_eq, look_cons_ne, field_cons_eq, field_cons_ne, look_put_ne, look_put_eq, iteT, iteF, lenV_tup, lenV_lst]
noncomputable def inR (R v : Int) : Bool := decide (0 ≤ v) && decide (v < R)
theorem below_inR (v b : Int) (σ : Sto) : n_is_below [.int v, .int b] σ = some (.bool (inR b v), σ) := is_below_int v b σ
theorem compL_map {f : AV → Sto → Option (Option AV × Sto)} {g : AV → AV} {σ : Sto} : ∀ {L : List AV}, (∀ v ∈ L, f v σ = some (some (g v), σ)) → compL f L σ = some (L.map g, σ)
  | [], _ => rfl
  | v :: r, h => by
    rw [compL, h v List.mem_cons_self]
    simp only [Option.bind_some]
    rw [compL_map fun w hw => h w (List.mem_cons_of_mem _ hw)]
    rfl
theorem oC_map {t : Nat} {ρ : Loc} {c : Loc → Sto → Option (Bool × Sto)} {e : Loc → Sto → Option (AV × Sto)} {s : AV} {σ : Sto} {L : List AV} {g : AV → AV} (hi : items s = some L) (hf : fits L = true)
    (hc : ∀ ρ σ, c ρ σ = some (true, σ)) (he : ∀ v ∈ L, e (put t (.val v) (valsOf ρ)) σ = some (g v, σ)) : oC t ρ c e s σ = some (L.map g, σ) := by
  unfold oC
  rw [hi]
  simp only [Option.bind_some, hf, if_true]
  refine compL_map fun v hv => ?_
  rw [hc, Option.bind_some]
  simp only [if_true]
  rw [he v hv]
  rfl
theorem boolL_map {α : Type} (g : α → Bool) : ∀ L : List α, boolL (L.map fun v => AV.bool (g v)) = some (L.map g)
  | [] => rfl
  | a :: r => by rw [List.map_cons, boolL, boolL_map g r]; rfl
theorem allV_map {α : Type} (g : α → Bool) (L : List α) : allV (.lst (L.map fun v => AV.bool (g v))) = some (.bool (L.all g)) := by
  show (boolL _).map _ = _
  rw [boolL_map]
  simp [List.all_map, Function.comp_def]

noncomputable abbrev mP (n t need rest cont R fr ins : AV) : AO := .inst 11 [(3, n), (4, t), (5, need), (6, rest), (7, cont), (8, R), (9, fr), (10, ins)]
noncomputable abbrev mU (ps cs gs st : AV) : AO := .inst 17 [(12, ps), (13, cs), (14, gs), (16, st)]

section
variable {σ : Sto} {u p a b c : Nat} {n t need rest cont fr ins ps cs gs st nb tb nd rb cb Rb insb : AV} {R fb : Int}
theorem are_regs (hp : σ[p]? = some (mP n t need rest cont (.int R) fr ins)) {ns : List Int} (hl : ns.length ≤ 1000000) : n_are_registers [.tup (ns.map .int), .obj p] σ = some (.bool (ns.all (inR R)), σ) := by
  unfold n_are_registers s_are_registers
  simp only [p_are_registers, bindAll, Option.map_some, Option.bind_some]
  rw [rv_cons_eq, bV_some]
  rw [show mB (isiV 2 (AV.tup (ns.map .int))) σ = some (.bool true, σ) from rfl, bB_andT, rv_cons_eq, bV_some]
  rw [oC_map (L := ns.map .int) (g := fun v => match v with | .int i => AV.bool (inR R i) | _ => .none) rfl (fits_of (by simpa using hl)) (fun _ _ => rfl)]
  · rw [mV_some, bV_some, List.map_map]
    rw [show ((fun v => match v with | .int i => AV.bool (inR R i) | _ => AV.none) ∘ AV.int) = fun x : Int => AV.bool (inR R x) from rfl]
    rw [allV_map]
    simp [bV_some, mV_some, bO_next, bO_ret, fin_next, fin_ret, mO_some, mB_some, mN_some, asB_bool, bB_last, bB_andF, bB_andT, bB_orT, bB_orF, rv_cons_eq, rv_cons_ne, rv_put_eq, rv_put_ne, bL_put_eq, oA_obj, fldO_some, asB_map, asB_bind, look_cons_eq, look_cons_ne, field_cons_eq, field_cons_ne, look_put_ne, look_put_eq, iteT, iteF, lenV_tup, lenV_lst]
  · intro v hv
    obtain ⟨i, _, rfl⟩ := List.mem_map.mp hv
    simp [valsOf, kill, put, hp, below_inR, bV_some, mV_some, bO_next, bO_ret, fin_next, fin_ret, mO_some, mB_some, mN_some, asB_bool, bB_last, bB_andF, bB_andT, bB_orT, bB_orF, rv_cons_eq, rv_cons_ne, rv_put_eq, rv_put_ne, bL_put_eq, oA_obj, fldO_some, asB_map, asB_bind, look_cons_eq, look_cons_ne, field_cons_eq, field_cons_ne, look_put_ne, look_put_eq, iteT, iteF, lenV_tup, lenV_lst]
theorem closure_row (hu : σ[u]? = some (mU (.lst [.obj a, .obj b, .obj c]) cs gs st)) (hp : σ[p]? = some (mP n t need rest cont (.int R) fr ins)) (hb : σ[b]? = some (mP nb tb nd rb cb Rb (.int fb) insb)) {r : Int} {ns : List Int} (hl : ns.length ≤ 1000000) :
    n_is_closure_row [.obj u, .obj p, .tup [.int r, .int 1, .tup (ns.map .int)]] σ = some (.bool (inR R r && ns.all (inR R) && decide ((ns.length : Int) = fb)), σ) := by
  have hr := are_regs hp hl
  have hf : fits (ns.map AV.int) = true := fits_of (by simpa using hl)
  have h1 : inR 3 1 = true := rfl
  have l3 : fits [AV.int r, .int 1, .tup (ns.map .int)] = true := rfl
  have lp : fits [AV.obj a, .obj b, .obj c] = true := rfl
  unfold n_is_closure_row s_is_closure_row
  cases e1 : inR R r
  · simp [p_is_closure_row, bindAll, isiV, hp, below_inR, e1, l3, atI, cmpV, eqS, subV, bV_some, mV_some, bO_next, bO_ret, fin_next, fin_ret, mO_some, mB_some, mN_some, asB_bool, bB_last, bB_andF, bB_andT, bB_orT, bB_orF, rv_cons_eq, rv_cons_ne, rv_put_eq, rv_put_ne, bL_put_eq, oA_obj, fldO_some, asB_map, asB_bind, look_cons_eq, look_cons_ne, field_cons_eq, field_cons_ne, look_put_ne, look_put_eq, iteT, iteF, lenV_tup, lenV_lst]
  · cases e2 : ns.all (inR R)
    · simp [p_is_closure_row, bindAll, isiV, hp, hu, below_inR, e1, e2, l3, lp, hr, h1, atI, cmpV, eqS, subV, bV_some, mV_some, bO_next, bO_ret, fin_next, fin_ret, mO_some, mB_some, mN_some, asB_bool, bB_last, bB_andF, bB_andT, bB_orT, bB_orF, rv_cons_eq, rv_cons_ne, rv_put_eq, rv_put_ne, bL_put_eq, oA_obj, fldO_some, asB_map, asB_bind, look_cons_eq, look_cons_ne, field_cons_eq, field_cons_ne, look_put_ne, look_put_eq, iteT, iteF, lenV_tup, lenV_lst]
    · simp [p_is_closure_row, bindAll, isiV, hp, hu, hb, below_inR, e1, e2, l3, lp, hr, h1, hf, atI, cmpV, eqV, eqS, subV, bV_some, mV_some, bO_next, bO_ret, fin_next, fin_ret, mO_some, mB_some, mN_some, asB_bool, bB_last, bB_andF, bB_andT, bB_orT, bB_orF, rv_cons_eq, rv_cons_ne, rv_put_eq, rv_put_ne, bL_put_eq, oA_obj, fldO_some, asB_map, asB_bind, look_cons_eq, look_cons_ne, field_cons_eq, field_cons_ne, look_put_ne, look_put_eq, iteT, iteF, lenV_tup, lenV_lst]
end
end Mine
/-! part NR -/
namespace Mine
open PySem PyProof.Rows

theorem compL_mapE {α : Type} {enc g : α → AV} {f : AV → Sto → Option (Option AV × Sto)} {σ : Sto} : ∀ {L : List α}, (∀ v ∈ L, f (enc v) σ = some (some (g v), σ)) → compL f (L.map enc) σ = some (L.map g, σ)
  | [], _ => rfl
  | v :: r, h => by
    rw [List.map_cons, compL, h v List.mem_cons_self]
    simp only [Option.bind_some]
    rw [compL_mapE fun w hw => h w (List.mem_cons_of_mem _ hw)]
    rfl
theorem oC_mapE {α : Type} {enc g : α → AV} {t : Nat} {ρ : Loc} {c : Loc → Sto → Option (Bool × Sto)} {e : Loc → Sto → Option (AV × Sto)} {s : AV} {σ : Sto} {L : List α} (hi : items s = some (L.map enc)) (hf : L.length ≤ 1000000)
    (hc : ∀ ρ σ, c ρ σ = some (true, σ)) (he : ∀ v ∈ L, e (put t (.val (enc v)) (valsOf ρ)) σ = some (g v, σ)) : oC t ρ c e s σ = some (L.map g, σ) := by
  unfold oC
  rw [hi]
  simp only [Option.bind_some, fits_of (l := L.map enc) (by simpa using hf), if_true]
  refine compL_mapE fun v hv => ?_
  rw [hc, Option.bind_some]
  simp only [if_true]
  rw [he v hv]
  rfl
theorem intL_map {α : Type} (g : α → Int) : ∀ L : List α, intL (L.map fun v => AV.int (g v)) = some (L.map g)
  | [] => rfl
  | a :: r => by rw [List.map_cons, intL, intL_map g r]; rfl
noncomputable def encRow (x : Int × List Int) : AV := .tup [.int x.1, .int 1, .tup (x.2.map .int)]
noncomputable def okRow (R fb : Int) (x : Int × List Int) : Bool := inR R x.1 && x.2.all (inR R) && decide ((x.2.length : Int) = fb)
noncomputable def distinct (l : List Int) : Bool := decide (((l.foldl stepD []).length : Int) = (l.length : Int))

section
variable {σ : Sto} {u p a b c : Nat} {n t need rest cont fr ins ps cs gs st nb tb nd rb cb Rb insb : AV} {R fb : Int}
theorem closure_rows (hu : σ[u]? = some (mU (.lst [.obj a, .obj b, .obj c]) cs gs st)) (hp : σ[p]? = some (mP n t need rest cont (.int R) fr ins)) (hb : σ[b]? = some (mP nb tb nd rb cb Rb (.int fb) insb)) {x : Int × List Int} {rows : List (Int × List Int)}
    (hl : ∀ y ∈ x :: rows, y.2.length ≤ 1000000) (hn : (x :: rows).length ≤ 1000) :
    n_are_closure_rows [.obj u, .obj p, .tup ((x :: rows).map encRow)] σ = some (.bool ((x :: rows).all (okRow R fb) && distinct ((x :: rows).map (·.1))), σ) := by
  unfold n_are_closure_rows s_are_closure_rows
  simp only [p_are_closure_rows, bindAll, Option.map_some, Option.bind_some]
  have hr : ∀ σ', rv 27 [(45, .val (.obj u)), (18, .val (.obj p)), (27, .val (.tup ((x :: rows).map encRow)))] σ' = some (.tup ((x :: rows).map encRow), σ') := fun _ => rfl
  rw [hr, bV_some]
  rw [show mB (isiV 2 (AV.tup ((x :: rows).map encRow))) σ = some (.bool true, σ) from rfl, bV_some, asB_map]
  rw [show (AV.bool !true) = .bool false from rfl, bB_orF, hr, bV_some, mV_some, bV_some]
  rw [show mB (cmpV CO.eq (AV.tup ((x :: rows).map encRow)) (AV.tup [])) σ = some (.bool false, σ) from rfl, bB_orF, hr, bV_some]
  rw [oC_mapE (enc := encRow) (L := x :: rows) (g := fun y => .bool (okRow R fb y)) rfl (Nat.le_trans hn (by decide)) (fun _ _ => rfl) fun v hv => ?h1, mV_some, bV_some, allV_map, mO_some, bV_some, asB_map, bB_last, bV_some, asB_bind]
  case h1 =>
    have := closure_row hu hp hb (r := v.1) (hl v hv)
    simp [valsOf, kill, put, encRow, this, okRow, bV_some, mV_some, bO_next, bO_ret, fin_next, fin_ret, mO_some, mB_some, mN_some, asB_bool, bB_last, bB_andF, bB_andT, bB_orT, bB_orF, rv_cons_eq, rv_cons_ne, rv_put_eq, rv_put_ne, bL_put_eq, oA_obj, fldO_some, asB_map, asB_bind, look_cons_eq, look_cons_ne, field_cons_eq, field_cons_ne, look_put_ne, look_put_eq, iteT, iteF, lenV_tup, lenV_lst]
  cases e : (x :: rows).all (okRow R fb)
  · rfl
  · rw [if_neg (by decide), bO_next, hr, bV_some]
    rw [oC_mapE (enc := encRow) (L := x :: rows) (g := fun y => .int y.1) rfl (Nat.le_trans hn (by decide)) (fun _ _ => rfl) fun v hv => ?h2]
    case h2 => simp [valsOf, kill, put, encRow, subV, atI, fits_cons, bV_some, mV_some, bO_next, bO_ret, fin_next, fin_ret, mO_some, mB_some, mN_some, asB_bool, bB_last, bB_andF, bB_andT, bB_orT, bB_orF, rv_cons_eq, rv_cons_ne, rv_put_eq, rv_put_ne, bL_put_eq, oA_obj, fldO_some, asB_map, asB_bind, look_cons_eq, look_cons_ne, field_cons_eq, field_cons_ne, look_put_ne, look_put_eq, iteT, iteF, lenV_tup, lenV_lst]
    rw [mV_some, mV_some, bO_next]
    have h3 : lensetV (.lst ((x :: rows).map fun y => AV.int y.1)) = some (.int (((x :: rows).map (·.1)).foldl stepD []).length) := by
      show (if decide _ = true then _ else _) = _
      rw [if_pos (by simpa using hn), intL_map]; rfl
    have h4 : lenV (.lst ((x :: rows).map fun y => AV.int y.1)) = some (.int ((x :: rows).map (·.1)).length) := by
      rw [lenV_lst (fits_of (by rw [List.length_map]; exact Nat.le_trans hn (by decide)))]
      rw [List.length_map, List.length_map]
    rw [rv_put_eq, bV_some, h3, mO_some, bV_some, rv_put_eq, bV_some, h4, mO_some, bV_some]
    rw [show cmpV CO.eq (.int (((x :: rows).map (·.1)).foldl stepD []).length) (.int ((x :: rows).map (·.1)).length) = some (distinct ((x :: rows).map (·.1))) from rfl]
    rw [mB_some, mV_some, bO_ret, fin_ret, Bool.true_and]
end

section
variable {σ : Sto} {u p a b c : Nat} {n t need rest cont fr ins ps cs gs st nb tb nd rb cb Rb insb : AV} {R fb pr : Int}
theorem fits_target (hp : σ[p]? = some (mP n t need rest cont (.int R) fr ins)) {v : Int} : n_operand_fits [.obj u, .obj p, .int pr, .str 32, .int v] σ = some (.bool (inR R v), σ) := by
  unfold n_operand_fits s_operand_fits
  simp [p_operand_fits, bindAll, hp, below_inR, isinV, isinL, eqS, bV_some, mV_some, bO_next, bO_ret, fin_next, fin_ret, mO_some, mB_some, mN_some, asB_bool, bB_last, bB_andF, bB_andT, bB_orT, bB_orF, rv_cons_eq, rv_cons_ne, rv_put_eq, rv_put_ne, bL_put_eq, oA_obj, fldO_some, asB_map, asB_bind, look_cons_eq, look_cons_ne, field_cons_eq, field_cons_ne, look_put_ne, look_put_eq, iteT, iteF, lenV_tup, lenV_lst]
theorem fits_source (hp : σ[p]? = some (mP n t need rest cont (.int R) fr ins)) {v : Int} : n_operand_fits [.obj u, .obj p, .int pr, .str 24, .int v] σ = some (.bool (inR R v), σ) := by
  unfold n_operand_fits s_operand_fits
  simp [p_operand_fits, bindAll, hp, below_inR, isinV, isinL, eqS, bV_some, mV_some, bO_next, bO_ret, fin_next, fin_ret, mO_some, mB_some, mN_some, asB_bool, bB_last, bB_andF, bB_andT, bB_orT, bB_orF, rv_cons_eq, rv_cons_ne, rv_put_eq, rv_put_ne, bL_put_eq, oA_obj, fldO_some, asB_map, asB_bind, look_cons_eq, look_cons_ne, field_cons_eq, field_cons_ne, look_put_ne, look_put_eq, iteT, iteF, lenV_tup, lenV_lst]
theorem fits_sources (hp : σ[p]? = some (mP n t need rest cont (.int R) fr ins)) {ns : List Int} (hl : ns.length ≤ 1000000) : n_operand_fits [.obj u, .obj p, .int pr, .str 26, .tup (ns.map .int)] σ = some (.bool (ns.all (inR R)), σ) := by
  unfold n_operand_fits s_operand_fits
  simp [p_operand_fits, bindAll, hp, are_regs hp hl, isinV, isinL, eqS, eqV, cmpV, bV_some, mV_some, bO_next, bO_ret, fin_next, fin_ret, mO_some, mB_some, mN_some, asB_bool, bB_last, bB_andF, bB_andT, bB_orT, bB_orF, rv_cons_eq, rv_cons_ne, rv_put_eq, rv_put_ne, bL_put_eq, oA_obj, fldO_some, asB_map, asB_bind, look_cons_eq, look_cons_ne, field_cons_eq, field_cons_ne, look_put_ne, look_put_eq, iteT, iteF, lenV_tup, lenV_lst]
theorem fits_rows (hu : σ[u]? = some (mU (.lst [.obj a, .obj b, .obj c]) cs gs st)) (hp : σ[p]? = some (mP n t need rest cont (.int R) fr ins)) (hb : σ[b]? = some (mP nb tb nd rb cb Rb (.int fb) insb)) {x : Int × List Int} {rows : List (Int × List Int)}
    (hl : ∀ y ∈ x :: rows, y.2.length ≤ 1000000) (hn : (x :: rows).length ≤ 1000) :
    n_operand_fits [.obj u, .obj p, .int pr, .str 27, .tup ((x :: rows).map encRow)] σ = some (.bool ((x :: rows).all (okRow R fb) && distinct ((x :: rows).map (·.1))), σ) := by
  have h := closure_rows hu hp hb hl hn
  generalize (x :: rows).map encRow = l at h ⊢
  unfold n_operand_fits s_operand_fits
  simp [p_operand_fits, bindAll, hp, h, isinV, isinL, eqS, eqV, cmpV, bV_some, mV_some, bO_next, bO_ret, fin_next, fin_ret, mO_some, mB_some, mN_some, asB_bool, bB_last, bB_andF, bB_andT, bB_orT, bB_orF, rv_cons_eq, rv_cons_ne, rv_put_eq, rv_put_ne, bL_put_eq, oA_obj, fldO_some, asB_map, asB_bind, look_cons_eq, look_cons_ne, field_cons_eq, field_cons_ne, look_put_ne, look_put_eq, iteT, iteF, lenV_tup, lenV_lst]
noncomputable def boundOf (N fr pr nc ng : Int) (s : Nat) : Int := if s = 49 then nc else if s = 50 then ng else if s = 9 then fr else if s = 18 then 3 else if s = 51 then pr else N
theorem fits_bound {f : Int} {cl gl il : List AV} (hu : σ[u]? = some (mU (.lst [.obj a, .obj b, .obj c]) (.lst cl) (.lst gl) st)) (hp : σ[p]? = some (mP n t need rest cont (.int R) (.int f) (.lst il)))
    (h1 : fits cl = true) (h2 : fits gl = true) (h3 : fits il = true) {v : Int} {s : Nat} (hs : s ∈ [49, 50, 9, 18, 51, 34]) :
    n_operand_fits [.obj u, .obj p, .int pr, .str s, .int v] σ = some (.bool (inR (boundOf il.length f pr cl.length gl.length s) v), σ) := by
  have lp : fits [AV.obj a, .obj b, .obj c] = true := rfl
  simp only [List.mem_cons, List.not_mem_nil, or_false] at hs
  have k0 : isinV (.str s) (.tup [.str 32, .str 24]) = some false := by rcases hs with rfl | rfl | rfl | rfl | rfl | rfl <;> rfl
  have k1 : cmpV CO.eq (.str s) (.str 26) = some false := by rcases hs with rfl | rfl | rfl | rfl | rfl | rfl <;> rfl
  have k2 : cmpV CO.eq (.str s) (.str 27) = some false := by rcases hs with rfl | rfl | rfl | rfl | rfl | rfl <;> rfl
  have k3 : ∀ x1 x2 x3 x5 x6 : Int, subV σ (.dct [.str 49, .str 50, .str 9, .str 18, .str 51, .str 34] [.int x1, .int x2, .int x3, .int 3, .int x5, .int x6]) (.str s) = some (.int (boundOf x6 x3 x5 x1 x2 s)) := by
    intros; rcases hs with rfl | rfl | rfl | rfl | rfl | rfl <;> kernel_rfl
  have k4 : ∀ x1 x2 x3 x4 x5 x6 : AV, oD [.str 49, x1, .str 50, x2, .str 9, x3, .str 18, x4, .str 51, x5, .str 34, x6] σ = some (.dct [.str 49, .str 50, .str 9, .str 18, .str 51, .str 34] [x1, x2, x3, x4, x5, x6], σ) := by
    intros; kernel_rfl
  clear hs
  unfold n_operand_fits s_operand_fits
  simp [p_operand_fits, bindAll, hu, hp, h1, h2, h3, lp, below_inR, k0, k1, k2, k3, k4, bV_some, mV_some, bO_next, bO_ret, fin_next, fin_ret, mO_some, mB_some, mN_some, asB_bool, bB_last, bB_andF, bB_andT, bB_orT, bB_orF, rv_cons_eq, rv_cons_ne, rv_put_eq, rv_put_ne, bL_put_eq, oA_obj, fldO_some, asB_map, asB_bind, look_cons_eq, look_cons_ne, field_cons_eq, field_cons_ne, look_put_ne, look_put_eq, iteT, iteF, lenV_tup, lenV_lst]
end
end Mine
/-! part NS -/
namespace Mine
open PySem

noncomputable def Found (I : Loc → Prop) (σ : Sto) (m : Option Out) : Option AV → Prop
  | some a => m = some (.ret a σ)
  | none => ∃ ρ', I ρ' ∧ m = some (.next ρ' σ)
theorem forL_find {α : Type} {f : AV → Loc → Sto → Option Out} {enc : α → AV} {σ : Sto} (I : Loc → Prop) (q : α → Option AV) : ∀ {L : List α} {ρ : Loc}, (∀ v ∈ L, ∀ ρ, I ρ → Found I σ (f (enc v) ρ σ) (q v)) → I ρ → Found I σ (forL f (L.map enc) ρ σ) (L.findSome? q)
  | [], ρ, _, hI => ⟨ρ, hI, rfl⟩
  | v :: r, ρ, h, hI => by
    have hv := h v List.mem_cons_self ρ hI
    rw [List.map_cons, forL, List.findSome?_cons]
    cases e : q v with
    | some a => rw [e] at hv; show _ = _; rw [show f (enc v) ρ σ = _ from hv]; rfl
    | none =>
      rw [e] at hv
      obtain ⟨ρ', hI', e'⟩ := hv
      rw [e', Option.bind_some]
      exact forL_find I q (fun w hw => h w (List.mem_cons_of_mem _ hw)) hI'
noncomputable def Goes (I : Loc → Prop) (σ : Sto) (k : Loc → Sto → Option Out) (X : Option Out) : Option AV → Prop
  | some a => X = some (.ret a σ)
  | none => ∀ ρ', I ρ' → k ρ' σ = X
theorem bO_find {I : Loc → Prop} {σ : Sto} {m : Option Out} {k : Loc → Sto → Option Out} {X : Option Out} {r : Option AV} (h : Found I σ m r) (hk : Goes I σ k X r) : bO m k = X := by
  cases r with
  | some a => rw [show m = _ from h, show X = _ from hk]; rfl
  | none => obtain ⟨ρ', hI, e⟩ := h; rw [e]; exact hk ρ' hI
noncomputable def opsK : List AV := match t_OPERANDS with
  | .dct k _ => k
  | _ => []
noncomputable def opsV : List AV := match t_OPERANDS with
  | .dct _ v => v
  | _ => []
theorem hT : t_OPERANDS = .dct opsK opsV := rfl
noncomputable def encP (x : Nat × AV) : AV := .tup [.str x.1, x.2]
theorem zipL_enc : ∀ (sorts : List Nat) (ops : List AV), zipL (sorts.map .str) ops = (sorts.zip ops).map encP
  | [], _ => by cases ‹List AV› <;> rfl
  | _ :: _, [] => rfl
  | s :: r, o :: q => by
    show _ :: zipL (r.map .str) q = _
    rw [zipL_enc r q]; rfl
section
variable {σ : Sto} {w : Nat} {sorts : List Nat} {ops : List AV}
theorem opairs {s : Nat} {o : AV} (hrow : keyOf opsK opsV (.str w) = some (some (.tup ((s :: sorts).map .str)))) (hf : ((AV.str w) :: o :: ops).length ≤ 1000000) (hs : sorts.length ≤ 1000) :
    n_operand_pairs [.tup (.str w :: o :: ops)] σ = some (.lst (((s :: sorts).zip (o :: ops)).map encP), σ) := by
  unfold n_operand_pairs s_operand_pairs
  have f1 : fits ((AV.str w) :: o :: ops) = true := fits_of hf
  have f2 : fits (o :: ops) = true := fits_of (by simp at hf ⊢; omega)
  have f3 : fits ((s :: sorts).map AV.str) = true := fits_of (by simp; omega)
  rw [← zipL_enc]
  rw [List.map_cons] at f3 hrow ⊢
  simp only [p_operand_pairs, bindAll, Option.map_some, Option.bind_some]
  simp [hT, hrow, f1, f2, f3, subV, atI, oT, oZ, bV_some, mV_some, bO_next, bO_ret, fin_next, fin_ret, mO_some, mB_some, mN_some, asB_bool, bB_last, bB_andF, bB_andT, bB_orT, bB_orF, rv_cons_eq, rv_cons_ne, rv_put_eq, rv_put_ne, bL_put_eq, oA_obj, fldO_some, asB_map, asB_bind, look_cons_eq, look_cons_ne, field_cons_eq, field_cons_ne, look_put_ne, look_put_eq, iteT, iteF, lenV_tup, lenV_lst]
end
noncomputable def wordV (bs : Nat → AV → Bool) (sorts : List Nat) (ops : List AV) : Option AV := (sorts.zip ops).findSome? fun x => if bs x.1 x.2 then none else some (.str x.1)
noncomputable def iwV (w : Nat) (cb : Bool) (r : Option AV) : AV := match r with
  | some a => a
  | none => if w = 55 ∧ cb = false then .str 55 else .none
noncomputable def iwI (u p : Nat) (pr : Int) (ins : AV) (ρ : Loc) : Prop := look 45 ρ = some (.val (.obj u)) ∧ look 18 ρ = some (.val (.obj p)) ∧ look 52 ρ = some (.val (.int pr)) ∧ look 21 ρ = some (.val ins)
theorem iwI_put {u p : Nat} {pr : Int} {ins : AV} {ρ : Loc} {k : Nat} {v : LV} (h : iwI u p pr ins ρ) (hk : k = 23 ∨ k = 25) : iwI u p pr ins (put k v ρ) := by
  obtain ⟨h1, h2, h3, h4⟩ := h
  rcases hk with rfl | rfl <;> exact ⟨by rw [look_put_ne (by decide)]; exact h1, by rw [look_put_ne (by decide)]; exact h2, by rw [look_put_ne (by decide)]; exact h3, by rw [look_put_ne (by decide)]; exact h4⟩
section
variable {σ : Sto} {u p w : Nat} {pr : Int} {ops : List AV}
theorem iw_none (hrow : keyOf opsK opsV (.str w) = some none) (hf : ops.length ≤ 1000) : n_instruction_word [.obj u, .obj p, .int pr, .tup (.str w :: ops)] σ = some (.str 21, σ) := by
  have f1 : fits ((AV.str w) :: ops) = true := fits_of (by simp; omega)
  unfold n_instruction_word s_instruction_word
  simp only [p_instruction_word, bindAll, Option.map_some, Option.bind_some]
  simp [hT, hrow, f1, isiV, cmpV, eqV, subV, atI, isinV, bV_some, mV_some, bO_next, bO_ret, fin_next, fin_ret, mO_some, mB_some, mN_some, asB_bool, bB_last, bB_andF, bB_andT, bB_orT, bB_orF, rv_cons_eq, rv_cons_ne, rv_put_eq, rv_put_ne, bL_put_eq, oA_obj, fldO_some, asB_map, asB_bind, look_cons_eq, look_cons_ne, field_cons_eq, field_cons_ne, look_put_ne, look_put_eq, iteT, iteF, lenV_tup, lenV_lst]
theorem iw_len {sorts : List Nat} (hrow : keyOf opsK opsV (.str w) = some (some (.tup (sorts.map .str)))) (hf : ops.length ≤ 1000) (hs : sorts.length ≤ 1000) (ne : ops.length ≠ sorts.length) : n_instruction_word [.obj u, .obj p, .int pr, .tup (.str w :: ops)] σ = some (.str 54, σ) := by
  have f1 : fits ((AV.str w) :: ops) = true := fits_of (by simp; omega)
  have f2 : fits (sorts.map AV.str) = true := fits_of (by simp; omega)
  have ne' : ¬ ((ops.length : Int) + 1 = 1 + (sorts.length : Int)) := by omega
  unfold n_instruction_word s_instruction_word
  simp only [p_instruction_word, bindAll, Option.map_some, Option.bind_some]
  simp [hT, hrow, f1, f2, isiV, cmpV, eqV, eqS, subV, atI, isinV, binV, binI, ne', bV_some, mV_some, bO_next, bO_ret, fin_next, fin_ret, mO_some, mB_some, mN_some, asB_bool, bB_last, bB_andF, bB_andT, bB_orT, bB_orF, rv_cons_eq, rv_cons_ne, rv_put_eq, rv_put_ne, bL_put_eq, oA_obj, fldO_some, asB_map, asB_bind, look_cons_eq, look_cons_ne, field_cons_eq, field_cons_ne, look_put_ne, look_put_eq, iteT, iteF, lenV_tup, lenV_lst]
theorem iw_gen {s : Nat} {sorts : List Nat} {o : AV} {bs : Nat → AV → Bool} (hrow : keyOf opsK opsV (.str w) = some (some (.tup ((s :: sorts).map .str)))) (hf : ops.length ≤ 1000) (hs : sorts.length ≤ 1000) (hl : ops.length = sorts.length)
    (hfit : ∀ x ∈ (s :: sorts).zip (o :: ops), n_operand_fits [.obj u, .obj p, .int pr, .str x.1, x.2] σ = some (.bool (bs x.1 x.2), σ)) (cb : Bool)
    (hcl : w = 55 → wordV bs (s :: sorts) (o :: ops) = none → n_is_closure_row [.obj u, .obj p, .tup (o :: ops)] σ = some (.bool cb, σ)) :
    n_instruction_word [.obj u, .obj p, .int pr, .tup (.str w :: o :: ops)] σ = some (iwV w cb (wordV bs (s :: sorts) (o :: ops)), σ) := by
  have f1 : fits ((AV.str w) :: o :: ops) = true := fits_of (by simp; omega)
  have f2 : fits ((s :: sorts).map AV.str) = true := fits_of (by simp; omega)
  have f3 : fits (o :: ops) = true := fits_of (by simp; omega)
  have hp := opairs (σ := σ) (ops := ops) (o := o) hrow (by simp; omega) hs
  have e1 : ((ops.length : Int) + 1 + 1 = 1 + ((sorts.length : Int) + 1)) := by omega
  have hrow' := hrow
  rw [List.map_cons] at hrow' f2
  unfold n_instruction_word s_instruction_word
  simp only [p_instruction_word, bindAll, Option.map_some, Option.bind_some]
  simp only [rv_cons_eq, rv_cons_ne (show (45 : Nat) ≠ 21 by decide), rv_cons_ne (show (18 : Nat) ≠ 21 by decide), rv_cons_ne (show (52 : Nat) ≠ 21 by decide)]
  simp [hT, hrow', f1, f2, isiV, cmpV, eqV, eqS, subV, atI, isinV, binV, binI, e1, hp, bV_some, mV_some, bO_next, bO_ret, fin_next, fin_ret, mO_some, mB_some, mN_some, asB_bool, bB_last, bB_andF, bB_andT, bB_orT, bB_orF, rv_cons_eq, rv_cons_ne, rv_put_eq, rv_put_ne, bL_put_eq, oA_obj, fldO_some, asB_map, asB_bind, look_cons_eq, look_cons_ne, field_cons_eq, field_cons_ne, look_put_ne, look_put_eq, iteT, iteF, lenV_tup, lenV_lst, -List.zip_cons_cons, -List.map_cons]
  generalize hV : iwV w cb (wordV bs (s :: sorts) (o :: ops)) = V
  refine (congrArg fin (bO_find (σ := σ) (I := iwI u p pr (.tup (.str w :: o :: ops))) (r := wordV bs (s :: sorts) (o :: ops)) (X := some (.ret V σ)) ?h ?hk)).trans fin_ret
  case h =>
    refine forL_find (enc := encP) _ (fun x => if bs x.1 x.2 then none else some (.str x.1)) (fun x hx ρ hI => ?_) ⟨rfl, rfl, rfl, rfl⟩
    obtain ⟨h45, h18, h52, h21⟩ := iwI_put (v := .val x.2) (k := 25) (iwI_put (v := .val (.str x.1)) (k := 23) hI (.inl rfl)) (.inr rfl)
    have hI2 : iwI u p pr (.tup (.str w :: o :: ops)) (put 25 (.val x.2) (put 23 (.val (.str x.1)) ρ)) := ⟨h45, h18, h52, h21⟩
    have r45 := rv_of h45
    have r18 := rv_of h18
    have r52 := rv_of h52
    have hfx := hfit x hx
    cases hb : bs x.1 x.2
    · rw [if_neg (by decide)]
      show _ = _
      rw [hb] at hfx
      simp [putAll, encP, r45, r18, r52, hfx, bV_some, mV_some, bO_next, bO_ret, fin_next, fin_ret, mO_some, mB_some, mN_some, asB_bool, bB_last, bB_andF, bB_andT, bB_orT, bB_orF, rv_cons_eq, rv_cons_ne, rv_put_eq, rv_put_ne, bL_put_eq, oA_obj, fldO_some, asB_map, asB_bind, look_cons_eq, look_cons_ne, field_cons_eq, field_cons_ne, look_put_ne, look_put_eq, iteT, iteF, lenV_tup, lenV_lst]
    · rw [if_pos rfl]
      rw [hb] at hfx
      refine ⟨_, hI2, ?_⟩
      simp [putAll, encP, r45, r18, r52, hfx, bV_some, mV_some, bO_next, bO_ret, fin_next, fin_ret, mO_some, mB_some, mN_some, asB_bool, bB_last, bB_andF, bB_andT, bB_orT, bB_orF, rv_cons_eq, rv_cons_ne, rv_put_eq, rv_put_ne, bL_put_eq, oA_obj, fldO_some, asB_map, asB_bind, look_cons_eq, look_cons_ne, field_cons_eq, field_cons_ne, look_put_ne, look_put_eq, iteT, iteF, lenV_tup, lenV_lst]
  case hk =>
    cases hw : wordV bs (s :: sorts) (o :: ops) with
    | some a => rw [hw] at hV; subst hV; rfl
    | none =>
      rw [hw] at hV
      have hV' : (if w = 55 ∧ cb = false then AV.str 55 else .none) = V := hV
      intro ρ' hI
      obtain ⟨h45, h18, h52, h21⟩ := hI
      have r45 := rv_of h45
      have r18 := rv_of h18
      have r21 := rv_of h21
      subst hV'
      by_cases h55 : w = 55
      · have hc := hcl h55 hw
        subst h55
        cases cb
        · simp [r45, r18, r21, hc, f1, f3, oT, bV_some, mV_some, bO_next, bO_ret, fin_next, fin_ret, mO_some, mB_some, mN_some, asB_bool, bB_last, bB_andF, bB_andT, bB_orT, bB_orF, rv_cons_eq, rv_cons_ne, rv_put_eq, rv_put_ne, bL_put_eq, oA_obj, fldO_some, asB_map, asB_bind, look_cons_eq, look_cons_ne, field_cons_eq, field_cons_ne, look_put_ne, look_put_eq, iteT, iteF, lenV_tup, lenV_lst]
        · simp [r45, r18, r21, hc, f1, f3, oT, bV_some, mV_some, bO_next, bO_ret, fin_next, fin_ret, mO_some, mB_some, mN_some, asB_bool, bB_last, bB_andF, bB_andT, bB_orT, bB_orF, rv_cons_eq, rv_cons_ne, rv_put_eq, rv_put_ne, bL_put_eq, oA_obj, fldO_some, asB_map, asB_bind, look_cons_eq, look_cons_ne, field_cons_eq, field_cons_ne, look_put_ne, look_put_eq, iteT, iteF, lenV_tup, lenV_lst]
      · simp [r45, r18, r21, h55, f1, bV_some, mV_some, bO_next, bO_ret, fin_next, fin_ret, mO_some, mB_some, mN_some, asB_bool, bB_last, bB_andF, bB_andT, bB_orT, bB_orF, rv_cons_eq, rv_cons_ne, rv_put_eq, rv_put_ne, bL_put_eq, oA_obj, fldO_some, asB_map, asB_bind, look_cons_eq, look_cons_ne, field_cons_eq, field_cons_ne, look_put_ne, look_put_eq, iteT, iteF, lenV_tup, lenV_lst]
end
end Mine
/-! part NT -/
namespace Mine
open PySem

inductive Ins where
  | two (w : Nat) (a b : Int) | clo (a k : Int) (ns : List Int) | prim (a k : Int) (ns : List Int) | fix (x : Int × List Int) (rows : List (Int × List Int)) | jump (l : Int) | brf (a l : Int) | call (a b : Int) (ns : List Int) | give (a : Int) (ns : List Int)
  | bad | gave (a : Int) (ns : List Int)
noncomputable def wI : Ins → Nat
  | .two w _ _ => w | .clo _ _ _ => 55 | .prim _ _ _ => 87 | .fix _ _ => 88 | .jump _ => 90 | .brf _ _ => 89 | .call _ _ _ => 93 | .give _ _ => 91 | .bad => 90 | .gave _ _ => 108
noncomputable def oI : Ins → List AV
  | .two _ a b => [.int a, .int b] | .clo a k ns => [.int a, .int k, .tup (ns.map .int)] | .prim a k ns => [.int a, .int k, .tup (ns.map .int)] | .fix x rows => [.tup ((x :: rows).map encRow)] | .jump l => [.int l] | .brf a l => [.int a, .int l]
  | .call a b ns => [.int a, .int b, .tup (ns.map .int)] | .give a ns => [.int a, .tup (ns.map .int)] | .bad => [] | .gave a ns => [.int a, .tup (ns.map .int)]
noncomputable def enc (i : Ins) : AV := .tup (.str (wI i) :: oI i)
noncomputable def sTwo (w : Nat) : List Nat := if w = 83 then [32, 49] else if w = 84 then [32, 24] else if w = 50 then [32, 50] else if w = 85 then [50, 24] else if w = 86 then [50, 24] else [32, 9]
noncomputable def sI : Ins → List Nat
  | .two w _ _ => sTwo w | .clo _ _ _ => [32, 18, 26] | .prim _ _ _ => [32, 51, 26] | .fix _ _ => [27] | .jump _ => [34] | .brf _ _ => [24, 34] | .call _ _ _ => [24, 24, 26] | .give _ _ => [24, 26] | .bad => [34] | .gave _ _ => []
structure Cx where
  (R N fr pr nc ng fb : Int)
noncomputable def fI (c : Cx) (s : Nat) (v : Int) : Bool := if s = 32 ∨ s = 24 then inR c.R v else inR (boundOf c.N c.fr c.pr c.nc c.ng s) v
noncomputable def bsOf (c : Cx) (bt : Bool) (s : Nat) (o : AV) : Bool := match o with
  | .int v => fI c s v
  | _ => bt
noncomputable def btI (c : Cx) : Ins → Bool
  | .clo _ _ ns => ns.all (inR c.R) | .prim _ _ ns => ns.all (inR c.R) | .call _ _ ns => ns.all (inR c.R) | .give _ ns => ns.all (inR c.R)
  | .fix x rows => (x :: rows).all (okRow c.R c.fb) && distinct ((x :: rows).map (·.1))
  | _ => true
noncomputable def cbI (c : Cx) : Ins → Bool
  | .clo a _ ns => inR c.R a && ns.all (inR c.R) && decide ((ns.length : Int) = c.fb)
  | _ => true
noncomputable def Wi (c : Cx) (i : Ins) : AV := match i with
  | .gave _ _ => .str 21
  | .bad => .str 54
  | i => iwV (wI i) (cbI c i) (wordV (bsOf c (btI c i)) (sI i) (oI i))
noncomputable def wf : Ins → Bool
  | .two w _ _ => w == 83 || w == 84 || w == 50 || w == 85 || w == 86 || w == 9
  | .clo _ k ns => (k == 1 || k == 3) && decide (ns.length ≤ 100)
  | .prim _ _ ns => decide (ns.length ≤ 100) | .call _ _ ns => decide (ns.length ≤ 100) | .give _ ns => decide (ns.length ≤ 100) | .gave _ ns => decide (ns.length ≤ 100)
  | .fix x rows => decide ((x :: rows).length ≤ 100) && (x :: rows).all fun y => decide (y.2.length ≤ 100)
  | _ => true
/-- what the store must say of the unit u and its procedure p -/
inductive CtxOk (c : Cx) (σ : Sto) (u p : Nat) : Prop
  | mk (a b d : Nat) (n t need rest cont st nb tb nd rb cb Rb insb : AV) (cl gl il : List AV) (hu : σ[u]? = some (mU (.lst [.obj a, .obj b, .obj d]) (.lst cl) (.lst gl) st)) (hp : σ[p]? = some (mP n t need rest cont (.int c.R) (.int c.fr) (.lst il)))
    (hb : σ[b]? = some (mP nb tb nd rb cb Rb (.int c.fb) insb)) (h1 : fits cl = true) (h2 : fits gl = true) (h3 : fits il = true) (h4 : c.N = il.length) (h5 : c.nc = cl.length) (h6 : c.ng = gl.length) : CtxOk c σ u p
theorem wf_two {w : Nat} {a b : Int} (hi : wf (.two w a b) = true) : ((((w = 83 ∨ w = 84) ∨ w = 50) ∨ w = 85) ∨ w = 86) ∨ w = 9 := by
  replace hi : (w == 83 || w == 84 || w == 50 || w == 85 || w == 86 || w == 9) = true := hi
  simpa only [Bool.or_eq_true, beq_iff_eq] using hi
theorem two_cases {P : Nat → Prop} {w : Nat} {a b : Int} (hi : wf (.two w a b) = true) (p1 : P 83) (p2 : P 84) (p3 : P 50) (p4 : P 85) (p5 : P 86) (p6 : P 9) : P w := by
  rcases wf_two hi with ((((rfl | rfl) | rfl) | rfl) | rfl) | rfl
  · exact p1
  · exact p2
  · exact p3
  · exact p4
  · exact p5
  · exact p6
theorem wf_clo {a k : Int} {ns : List Int} (hi : wf (.clo a k ns) = true) : (k = 1 ∨ k = 3) ∧ ns.length ≤ 100 := by
  replace hi : ((k == 1 || k == 3) && decide (ns.length ≤ 100)) = true := hi
  simpa only [Bool.and_eq_true, Bool.or_eq_true, beq_iff_eq, decide_eq_true_eq] using hi
theorem wf_fix {x : Int × List Int} {rows : List (Int × List Int)} (hi : wf (.fix x rows) = true) : (x :: rows).length ≤ 100 ∧ ∀ y ∈ x :: rows, y.2.length ≤ 100 := by
  replace hi : (decide ((x :: rows).length ≤ 100) && (x :: rows).all fun y => decide (y.2.length ≤ 100)) = true := hi
  simpa only [Bool.and_eq_true, decide_eq_true_eq, List.all_eq_true] using hi
section
variable {c : Cx} {σ : Sto} {u p : Nat}
theorem all1 {α : Type} {P : α → Prop} {a : α} (ha : P a) : ∀ x ∈ [a], P x := List.forall_mem_cons.mpr ⟨ha, List.forall_mem_nil _⟩
theorem all2 {α : Type} {P : α → Prop} {a b : α} (ha : P a) (hb : P b) : ∀ x ∈ [a, b], P x := List.forall_mem_cons.mpr ⟨ha, all1 hb⟩
theorem all3 {α : Type} {P : α → Prop} {a b c : α} (ha : P a) (hb : P b) (hc : P c) : ∀ x ∈ [a, b, c], P x := List.forall_mem_cons.mpr ⟨ha, all2 hb hc⟩
theorem fit_int (C : CtxOk c σ u p) {s : Nat} {v : Int} (hs : s ∈ [32, 24, 49, 50, 9, 18, 51, 34]) : n_operand_fits [.obj u, .obj p, .int c.pr, .str s, .int v] σ = some (.bool (fI c s v), σ) := by
  obtain ⟨a, b, d, n, t, need, rest, cont, st, nb, tb, nd, rb, cb, Rb, insb, cl, gl, il, hu, hp, hb, h1, h2, h3, h4, h5, h6⟩ := C
  rcases List.mem_cons.mp hs with rfl | hs
  · exact fits_target hp
  rcases List.mem_cons.mp hs with rfl | hs
  · exact fits_source hp
  have hn : ¬(s = 32 ∨ s = 24) := fun z => by rcases z with rfl | rfl <;> exact absurd hs (by decide)
  rw [fits_bound (pr := c.pr) hu hp h1 h2 h3 (v := v) hs]
  unfold fI
  rw [if_neg hn, h4, h5, h6]
theorem fit_all (C : CtxOk c σ u p) {i : Ins} (hi : wf i = true) (hne : i ≠ .bad) : ∀ x ∈ (sI i).zip (oI i), n_operand_fits [.obj u, .obj p, .int c.pr, .str x.1, x.2] σ = some (.bool (bsOf c (btI c i) x.1 x.2), σ) := by
  have I : ∀ s v, s ∈ [32, 24, 49, 50, 9, 18, 51, 34] → n_operand_fits [.obj u, .obj p, .int c.pr, .str s, .int v] σ = some (.bool (bsOf c (btI c i) s (.int v)), σ) := fun s v hs => fit_int C hs
  obtain ⟨a, b, d, n, t, need, rest, cont, st, nb, tb, nd, rb, cb, Rb, insb, cl, gl, il, hu, hp, hb, h1, h2, h3, h4, h5, h6⟩ := C
  clear h1 h2 h3 h4 h5 h6
  cases i with
  | two w a b =>
    rcases wf_two hi with ((((rfl | rfl) | rfl) | rfl) | rfl) | rfl <;> exact all2 (I _ _ (of_decide_eq_true rfl)) (I _ _ (of_decide_eq_true rfl))
  | clo a k ns =>
    have hi := of_decide_eq_true ((Bool.and_eq_true _ _).mp hi).2
    exact all3 (I _ _ (of_decide_eq_true rfl)) (I _ _ (of_decide_eq_true rfl)) (fits_sources hp (Nat.le_trans hi (by decide)))
  | prim a k ns => exact all3 (I _ _ (of_decide_eq_true rfl)) (I _ _ (of_decide_eq_true rfl)) (fits_sources hp (Nat.le_trans (of_decide_eq_true hi) (by decide)))
  | call a k ns => exact all3 (I _ _ (of_decide_eq_true rfl)) (I _ _ (of_decide_eq_true rfl)) (fits_sources hp (Nat.le_trans (of_decide_eq_true hi) (by decide)))
  | give a ns => exact all2 (I _ _ (of_decide_eq_true rfl)) (fits_sources hp (Nat.le_trans (of_decide_eq_true hi) (by decide)))
  | fix y rows =>
    have hi := wf_fix hi
    exact all1 (fits_rows hu hp hb (fun z hz => Nat.le_trans (hi.2 z hz) (by decide)) (Nat.le_trans hi.1 (by decide)))
  | jump l => exact all1 (I _ _ (of_decide_eq_true rfl))
  | brf a l => exact all2 (I _ _ (of_decide_eq_true rfl)) (I _ _ (of_decide_eq_true rfl))
  | bad => exact absurd rfl hne
  | gave a ns => exact List.forall_mem_nil _
theorem iw_go (C : CtxOk c σ u p) {i : Ins} (hi : wf i = true) {s : Nat} {sorts : List Nat} {o : AV} {ops : List AV} (hb : i ≠ .bad) (hs : sI i = s :: sorts) (ho : oI i = o :: ops) (hrow : keyOf opsK opsV (.str (wI i)) = some (some (.tup ((s :: sorts).map .str)))) (h1 : ops.length ≤ 1000) (h2 : sorts.length ≤ 1000) (h3 : ops.length = sorts.length)
    (hcl : wI i = 55 → wordV (bsOf c (btI c i)) (s :: sorts) (o :: ops) = none → n_is_closure_row [.obj u, .obj p, .tup (o :: ops)] σ = some (.bool (cbI c i), σ)) :
    n_instruction_word [.obj u, .obj p, .int c.pr, enc i] σ = some (iwV (wI i) (cbI c i) (wordV (bsOf c (btI c i)) (sI i) (oI i)), σ) := by
  have F := fit_all C hi hb
  unfold enc
  rw [hs, ho] at F
  rw [hs, ho]
  exact iw_gen hrow h1 h2 h3 F _ hcl
theorem no55 {w : Nat} {P : Prop} (h : w ≠ 55) (z : w = 55) : P := absurd z h
theorem iwd_two (C : CtxOk c σ u p) {w : Nat} {a b : Int} (hi : wf (.two w a b) = true) (hrow : keyOf opsK opsV (.str w) = some (some (.tup ((sTwo w).map .str)))) (hs : ∃ s t, sTwo w = [s, t]) (h55 : w ≠ 55) : n_instruction_word [.obj u, .obj p, .int c.pr, enc (.two w a b)] σ = some (Wi c (.two w a b), σ) := by
  obtain ⟨s, t, e⟩ := hs
  rw [e] at hrow
  exact iw_go C hi (s := s) (sorts := [t]) (fun z => nomatch z) e rfl hrow (of_decide_eq_true rfl) (of_decide_eq_true rfl) rfl fun z => absurd z h55
theorem iwd_clo (C : CtxOk c σ u p) {a k : Int} {ns : List Int} (hi : wf (.clo a k ns) = true) : n_instruction_word [.obj u, .obj p, .int c.pr, enc (.clo a k ns)] σ = some (Wi c (.clo a k ns), σ) := by
  refine iw_go C hi (fun z => nomatch z) rfl rfl rfl (of_decide_eq_true rfl) (of_decide_eq_true rfl) rfl fun _ hw => ?_
  obtain ⟨hk, hl⟩ := wf_clo hi
  rcases hk with rfl | rfl
  · obtain ⟨a', b, d, n, t, need, rest, cont, st, nb, tb, nd, rb, cb, Rb, insb, cl, gl, il, hu, hp, hb, h1, h2, h3, h4, h5, h6⟩ := C
    exact closure_row hu hp hb (Nat.le_trans hl (by decide))
  · exfalso
    have e : bsOf c (btI c (.clo a 3 ns)) 18 (.int 3) = false := by
      show fI c 18 3 = false
      unfold fI boundOf inR; simp
    have := (List.findSome?_eq_none_iff.mp hw) (18, .int 3) (List.mem_cons_of_mem _ List.mem_cons_self)
    rw [e] at this
    cases this
theorem iwd (C : CtxOk c σ u p) {i : Ins} (hi : wf i = true) : n_instruction_word [.obj u, .obj p, .int c.pr, enc i] σ = some (Wi c i, σ) := by
  cases i with
  | two w a b =>
    refine iwd_two C hi ?_ ?_ ?_ <;> rcases wf_two hi with ((((rfl | rfl) | rfl) | rfl) | rfl) | rfl <;> first | rfl | exact ⟨_, _, rfl⟩ | decide
  | clo a k ns => exact iwd_clo C hi
  | prim a k ns => exact iw_go C hi (fun z => nomatch z) rfl rfl rfl (of_decide_eq_true rfl) (of_decide_eq_true rfl) rfl (no55 (w := 87) (by decide))
  | fix x rows => exact iw_go C hi (fun z => nomatch z) rfl rfl rfl (of_decide_eq_true rfl) (of_decide_eq_true rfl) rfl (no55 (w := 88) (by decide))
  | jump l => exact iw_go C hi (fun z => nomatch z) rfl rfl rfl (of_decide_eq_true rfl) (of_decide_eq_true rfl) rfl (no55 (w := 90) (by decide))
  | brf a l => exact iw_go C hi (fun z => nomatch z) rfl rfl rfl (of_decide_eq_true rfl) (of_decide_eq_true rfl) rfl (no55 (w := 89) (by decide))
  | call a b ns => exact iw_go C hi (fun z => nomatch z) rfl rfl rfl (of_decide_eq_true rfl) (of_decide_eq_true rfl) rfl (no55 (w := 93) (by decide))
  | give a ns => exact iw_go C hi (fun z => nomatch z) rfl rfl rfl (of_decide_eq_true rfl) (of_decide_eq_true rfl) rfl (no55 (w := 91) (by decide))
  | bad => exact iw_len (sorts := [34]) rfl (by decide) (by decide) (by decide)
  | gave a ns => exact iw_none rfl (of_decide_eq_true rfl)
end
end Mine
/-! part NU -/
namespace Mine
open PySem

noncomputable def idx {α : Type} : Nat → List α → List (Nat × α)
  | _, [] => []
  | i, a :: r => (i, a) :: idx (i + 1) r
noncomputable def encE {α : Type} (f : α → AV) (x : Nat × α) : AV := .tup [.int x.1, f x.2]
theorem enumL_enc {α : Type} (f : α → AV) : ∀ (L : List α) (i : Nat), enumL i (L.map f) = (idx i L).map (encE f)
  | [], _ => rfl
  | a :: r, i => by
    show _ :: enumL (i + 1) (r.map f) = _
    rw [enumL_enc f r]; rfl
noncomputable def wordQ (c : Cx) (x : Nat × Ins) : Option AV := if isNoneV (Wi c x.2) then none else some (.tup [.int x.1, Wi c x.2])
noncomputable def endB (z : Ins) : Bool := wI z == 90 || wI z == 93 || wI z == 91
noncomputable def peI (u p : Nat) (pr : Int) (ρ : Loc) : Prop := look 45 ρ = some (.val (.obj u)) ∧ look 18 ρ = some (.val (.obj p)) ∧ look 52 ρ = some (.val (.int pr))
theorem peI_put {u p : Nat} {pr : Int} {ρ : Loc} {k : Nat} {v : LV} (h : peI u p pr ρ) (hk : k ≠ 45 ∧ k ≠ 18 ∧ k ≠ 52) : peI u p pr (put k v ρ) :=
  ⟨by rw [look_put_ne hk.1]; exact h.1, by rw [look_put_ne hk.2.1]; exact h.2.1, by rw [look_put_ne hk.2.2]; exact h.2.2⟩
theorem atI_last {l : List AV} {z : AV} (h : (l ++ [z]).length ≤ 1000000) : atI (l ++ [z]) (((l ++ [z]).length : Int) - 1) = some z := by
  unfold atI
  rw [if_pos (fits_of h)]
  have e : ((l ++ [z]).length : Int) - 1 = (l.length : Int) := by simp
  rw [e, if_pos (by omega), Int.toNat_natCast]
  simp
theorem subV_lst {σ : Sto} {l : List AV} {i : Int} : subV σ (.lst l) (.int i) = atI l i := rfl
theorem subV_tup {σ : Sto} {l : List AV} {i : Int} : subV σ (.tup l) (.int i) = atI l i := rfl
theorem atI_zero {a : AV} {l : List AV} (h : fits (a :: l) = true) : atI (a :: l) 0 = some a := by
  unfold atI
  rw [if_pos h, if_pos (by decide)]; rfl
theorem sub_int {a b : Int} : binV .sub (.int a) (.int b) = some (.int (a - b)) := rfl
theorem add_int {a b : Int} : binV .add (.int a) (.int b) = some (.int (a + b)) := rfl
theorem isin_ends (w : Nat) : isinV (.str w) t_ENDS = some (w == 90 || w == 93 || w == 91) := by
  show isinL (.str w) [.str 90, .str 93, .str 91] = _
  simp [isinL, eqS]
  by_cases h1 : w = 90
  · simp [h1]
  · by_cases h2 : w = 93
    · simp [h2]
    · by_cases h3 : w = 91
      · simp [h3]
      · simp [h1, h2, h3, Ne.symm h1, Ne.symm h2, Ne.symm h3]
section
variable {c : Cx} {σ : Sto} {u p : Nat} {procs : List AV} {cs gs st n t need rest cont fr : AV} {place : Int} {L : List Ins}
theorem bO_go {m : Option Out} {k : Loc → Sto → Option Out} (σ : Sto) (ρ : Loc) {X : Option Out} (h : m = some (.next ρ σ)) (h2 : k ρ σ = X) : bO m k = X := by rw [h]; exact h2
theorem bO_rt {m : Option Out} {k : Loc → Sto → Option Out} {a : AV} (h : m = some (.ret a σ)) : bO m k = some (.ret a σ) := by rw [h]; rfl
theorem fld_eq {ρ : Loc} {k j q : Nat} {o : AO} {v : AV} (h : look k ρ = some (.val (.obj q))) (hp : σ[q]? = some o) (hf : fldO j (some o) σ = some (v, σ)) : bV (rv k ρ σ) (oA j) = some (v, σ) := by
  rw [rv_of h, bV_some, oA_obj, hp, hf]
theorem bO_n {m : Option Out} {ρ : Loc} (h : m = some (.next ρ σ)) : (bO m fun ρ σ => some (.next ρ σ)) = some (.next ρ σ) := by rw [h]; rfl
noncomputable def peB (ρ : Loc) (σ : Sto) : Option Out := bO (mV (bV (bV (rv 45 ρ σ) fun v σ => mV (bV (rv 18 ρ σ) fun v σ => mV (bV (rv 52 ρ σ) fun v σ => mV (bV (rv 21 ρ σ) fun v σ => mV (some (([] : List AV), σ)) fun l σ => (v :: l, σ)) fun l σ => (v :: l, σ)) fun l σ => (v :: l, σ)) fun l σ => (v :: l, σ)) n_instruction_word) fun v σ => Out.next (put 69 (.val v) ρ) σ) fun ρ σ => bO (bV (mV (rv 69 ρ σ) fun v σ => (AV.bool (match v with | .none => false | _ => true), σ)) fun v σ => (asB v).bind fun t => if t then bO (mV (mV (bV (rv 70 ρ σ) fun v σ => mV (bV (rv 69 ρ σ) fun v σ => mV (some (([] : List AV), σ)) fun l σ => (v :: l, σ)) fun l σ => (v :: l, σ)) fun l σ => (AV.tup l, σ)) fun v σ => Out.ret v σ) fun ρ σ => some (Out.next ρ σ) else some (Out.next ρ σ)) fun ρ σ => some (Out.next ρ σ)
noncomputable def peT (ρ : Loc) (σ : Sto) : Option Out := bO (mV (bV (bV (bV (rv 18 ρ σ) (oA 10)) fun v σ => mO (lenV v) σ) fun u σ => bV (some (AV.int 1, σ)) fun v σ => mO (binV BO.sub u v) σ) fun v σ => Out.next (put 71 (.val v) ρ) σ) fun ρ σ => bO (bV (bV (bV (bV (bV (rv 18 ρ σ) (oA 10)) fun u σ => bV (rv 71 ρ σ) fun v σ => mO (subV σ u v) σ) fun u σ => bV (some (AV.int 0, σ)) fun v σ => mO (subV σ u v) σ) fun u σ => bV (some (t_ENDS, σ)) fun v σ => mN (isinV u v) σ) fun v σ => (asB v).bind fun t => if t then bO (mV (mV (bV (rv 71 ρ σ) fun v σ => mV (bV (some (AV.str 72, σ)) fun v σ => mV (some (([] : List AV), σ)) fun l σ => (v :: l, σ)) fun l σ => (v :: l, σ)) fun l σ => (AV.tup l, σ)) fun v σ => Out.ret v σ) fun ρ σ => some (Out.next ρ σ) else some (Out.next ρ σ)) fun ρ σ => bO (mV (bV (bV (rv 18 ρ σ) fun v σ => mV (some (([] : List AV), σ)) fun l σ => (v :: l, σ)) n_unread_place) fun v σ => Out.next (put 70 (.val v) ρ) σ) fun ρ σ => bO (mV (bV (mV (rv 70 ρ σ) fun v σ => (AV.bool (match v with | .none => true | _ => false), σ)) fun v σ => (asB v).bind fun t => if t then some (AV.none, σ) else mV (bV (rv 70 ρ σ) fun v σ => mV (bV (some (AV.str 73, σ)) fun v σ => mV (some (([] : List AV), σ)) fun l σ => (v :: l, σ)) fun l σ => (v :: l, σ)) fun l σ => (AV.tup l, σ)) fun v σ => Out.ret v σ) fun ρ σ => some (Out.next ρ σ)
theorem n_procedure_error_eq : n_procedure_error = fun l σ => (bindAll p_procedure_error l).bind fun ρ => fin (bO (mV (bV (bV (rv 45 ρ σ) fun v σ => mV (bV (rv 36 ρ σ) fun v σ => mV (some (([] : List AV), σ)) fun l σ => (v :: l, σ)) fun l σ => (v :: l, σ)) n_head_word) fun v σ => Out.next (put 69 (.val v) ρ) σ) fun ρ σ => bO (bV (mV (rv 69 ρ σ) fun v σ => (AV.bool (match v with | .none => false | _ => true), σ)) fun v σ => (asB v).bind fun t => if t then bO (mV (mV (bV (some (AV.int (-1), σ)) fun v σ => mV (bV (rv 69 ρ σ) fun v σ => mV (some (([] : List AV), σ)) fun l σ => (v :: l, σ)) fun l σ => (v :: l, σ)) fun l σ => (AV.tup l, σ)) fun v σ => Out.ret v σ) fun ρ σ => some (Out.next ρ σ) else some (Out.next ρ σ)) fun ρ σ => bO (mV (bV (bV (rv 45 ρ σ) (oA 12)) fun u σ => bV (rv 36 ρ σ) fun v σ => mO (subV σ u v) σ) fun v σ => Out.next (put 18 (.val v) ρ) σ) fun ρ σ => bO (bV (bV (rv 18 ρ σ) (oA 10)) (oFE 70 21 ρ peB)) peT) := rfl
noncomputable def peL (u : Nat) (place : Int) (pr w : AV) : Loc := put 69 (.val w) [(45, .val (.obj u)), (36, .val (.int place)), (52, .val pr)]
theorem pe_pre {w pr : AV} (hh : n_head_word [.obj u, .int place] σ = some (w, σ)) :
    (mV (bV (bV (rv 45 [(45, .val (.obj u)), (36, .val (.int place)), (52, .val pr)] σ) fun v σ => mV (bV (rv 36 [(45, .val (.obj u)), (36, .val (.int place)), (52, .val pr)] σ) fun v σ => mV (some (([] : List AV), σ)) fun l σ => (v :: l, σ)) fun l σ => (v :: l, σ)) n_head_word) fun v σ => Out.next (put 69 (.val v) [(45, .val (.obj u)), (36, .val (.int place)), (52, .val pr)]) σ) = some (.next (peL u place pr w) σ) := by
  have e : (bV (rv 45 [(45, .val (.obj u)), (36, .val (.int place)), (52, .val pr)] σ) fun v σ => mV (bV (rv 36 [(45, .val (.obj u)), (36, .val (.int place)), (52, .val pr)] σ) fun v σ => mV (some (([] : List AV), σ)) fun l σ => (v :: l, σ)) fun l σ => (v :: l, σ)) = some ([.obj u, .int place], σ) := rfl
  rw [e, bV_some, hh]; rfl
theorem pe_head {w : AV} (hh : n_head_word [.obj u, .int place] σ = some (w, σ)) (hw : isNoneV w = false) : n_procedure_error [.obj u, .int place, .int c.pr] σ = some (.tup [.int (-1), w], σ) := by
  rw [n_procedure_error_eq]
  refine (congrArg fin (bO_go σ _ (pe_pre hh) (bO_rt (a := .tup [.int (-1), w]) ?_))).trans fin_ret
  cases w with
  | none => cases hw
  | _ => rfl
theorem peB_ok {ρ : Loc} {i : Nat} {z w : AV} {pr : Int} (h : peI u p pr ρ) (hw : n_instruction_word [.obj u, .obj p, .int pr, z] σ = some (w, σ)) :
    (w = .none → peB (put 21 (.val z) (put 70 (.val (.int i)) ρ)) σ = some (.next (put 69 (.val .none) (put 21 (.val z) (put 70 (.val (.int i)) ρ))) σ)) ∧ (isNoneV w = false → peB (put 21 (.val z) (put 70 (.val (.int i)) ρ)) σ = some (.ret (.tup [.int i, w]) σ)) := by
  have h1 := peI_put (v := .val z) (k := 21) (peI_put (v := .val (.int i)) (k := 70) h (by decide)) (by decide)
  have r21 : ∀ σ, rv 21 (put 21 (.val z) (put 70 (.val (.int i)) ρ)) σ = some (z, σ) := rv_of look_put_eq
  have l70 : look 70 (put 21 (.val z) (put 70 (.val (.int i)) ρ)) = some (.val (.int i)) := by rw [look_put_ne (by decide)]; exact look_put_eq
  unfold peB
  generalize put 21 (.val z) (put 70 (.val (.int i)) ρ) = ρ1 at h1 r21 l70
  have r70 : ∀ σ, rv 70 (put 69 (.val w) ρ1) σ = some (.int i, σ) := rv_of (by rw [look_put_ne (by decide)]; exact l70)
  have r69 : ∀ σ, rv 69 (put 69 (.val w) ρ1) σ = some (w, σ) := rv_of look_put_eq
  have e : (bV (rv 45 ρ1 σ) fun v σ => mV (bV (rv 18 ρ1 σ) fun v σ => mV (bV (rv 52 ρ1 σ) fun v σ => mV (bV (rv 21 ρ1 σ) fun v σ => mV (some (([] : List AV), σ)) fun l σ => (v :: l, σ)) fun l σ => (v :: l, σ)) fun l σ => (v :: l, σ)) fun l σ => (v :: l, σ)) = some ([.obj u, .obj p, .int pr, z], σ) := by
    rw [rv_of h1.1, bV_some, rv_of h1.2.1, bV_some, rv_of h1.2.2, bV_some, r21, bV_some]; rfl
  constructor
  · rintro rfl
    refine bO_go σ (put 69 (.val .none) ρ1) (by rw [e, bV_some, hw]; rfl) (bO_n ?_)
    rw [r69]; rfl
  · intro hn
    refine bO_go σ (put 69 (.val w) ρ1) (by rw [e, bV_some, hw]; rfl) (bO_rt ?_)
    rw [r69, mV_some, bV_some]
    have e2 : (bO (mV (mV (bV (rv 70 (put 69 (.val w) ρ1) σ) fun v σ => mV (bV (rv 69 (put 69 (.val w) ρ1) σ) fun v σ => mV (some (([] : List AV), σ)) fun l σ => (v :: l, σ)) fun l σ => (v :: l, σ)) fun l σ => (AV.tup l, σ)) fun v σ => Out.ret v σ) fun ρ σ => some (Out.next ρ σ)) = some (.ret (.tup [.int i, w]) σ) := bO_rt (by rw [r70, bV_some, r69]; rfl)
    cases w with
    | none => cases hn
    | _ => exact e2
theorem peT_71 {ρ : Loc} {il : List AV} {pr : Int} (hI : peI u p pr ρ) (hp : σ[p]? = some (mP n t need rest cont (.int c.R) fr (.lst il))) (f1 : fits il = true) :
    (mV (bV (bV (bV (rv 18 ρ σ) (oA 10)) fun v σ => mO (lenV v) σ) fun u σ => bV (some (AV.int 1, σ)) fun v σ => mO (binV BO.sub u v) σ) fun v σ => Out.next (put 71 (.val v) ρ) σ) = some (.next (put 71 (.val (.int ((il.length : Int) - 1))) ρ) σ) := by
  rw [fld_eq hI.2.1 hp (v := .lst il) rfl, bV_some, lenV_lst f1, mO_some, bV_some, bV_some, sub_int]; rfl
theorem peT_tst {ρ : Loc} {il oz : List AV} {w : Nat} {pr : Int} {b : Bool} {X Y : Sto → Option Out} (hI : peI u p pr ρ) (h71 : look 71 ρ = some (.val (.int ((il.length : Int) - 1)))) (hp : σ[p]? = some (mP n t need rest cont (.int c.R) fr (.lst il))) (hz : atI il ((il.length : Int) - 1) = some (.tup (.str w :: oz))) (f2 : fits (AV.str w :: oz) = true) (hw : isinV (.str w) t_ENDS = some b) :
    (bV (bV (bV (bV (bV (rv 18 ρ σ) (oA 10)) fun u σ => bV (rv 71 ρ σ) fun v σ => mO (subV σ u v) σ) fun u σ => bV (some (AV.int 0, σ)) fun v σ => mO (subV σ u v) σ) fun u σ => bV (some (t_ENDS, σ)) fun v σ => mN (isinV u v) σ) fun v σ => (asB v).bind fun t => if t = true then X σ else Y σ) = if b = true then Y σ else X σ := by
  rw [fld_eq hI.2.1 hp (v := .lst il) rfl, bV_some, rv_of h71, bV_some, subV_lst, hz, mO_some, bV_some, bV_some, subV_tup, atI_zero f2, mO_some, bV_some, bV_some, hw]
  cases b <;> rfl
theorem peT_bad {ρ : Loc} {il oz : List AV} {w : Nat} {pr : Int} (hI : peI u p pr ρ) (hp : σ[p]? = some (mP n t need rest cont (.int c.R) fr (.lst il))) (f1 : fits il = true) (hz : atI il ((il.length : Int) - 1) = some (.tup (.str w :: oz))) (f2 : fits (AV.str w :: oz) = true) (hw : isinV (.str w) t_ENDS = some false) :
    peT ρ σ = some (.ret (.tup [.int ((il.length : Int) - 1), .str 72]) σ) := by
  have hI1 := peI_put (v := .val (.int ((il.length : Int) - 1))) (k := 71) hI (by decide)
  unfold peT
  refine bO_go σ _ (peT_71 hI hp f1) (bO_rt ?_)
  rw [peT_tst hI1 look_put_eq hp hz f2 hw, if_neg (by decide)]
  exact bO_rt (by rw [rv_of look_put_eq]; rfl)
theorem peT_ok {ρ : Loc} {il oz : List AV} {w : Nat} {pr : Int} {r V : AV} (hI : peI u p pr ρ) (hp : σ[p]? = some (mP n t need rest cont (.int c.R) fr (.lst il))) (f1 : fits il = true) (hz : atI il ((il.length : Int) - 1) = some (.tup (.str w :: oz))) (f2 : fits (AV.str w :: oz) = true) (hw : isinV (.str w) t_ENDS = some true)
    (hr : n_unread_place [.obj p] σ = some (r, σ)) (hV : (r = .none ∧ V = .none) ∨ ∃ i, r = .int i ∧ V = .tup [.int i, .str 73]) : peT ρ σ = some (.ret V σ) := by
  have hI1 := peI_put (v := .val (.int ((il.length : Int) - 1))) (k := 71) hI (by decide)
  unfold peT
  refine bO_go σ _ (peT_71 hI hp f1) (bO_go σ (put 71 (.val (.int ((il.length : Int) - 1))) ρ) ?_ ?_)
  · rw [peT_tst hI1 look_put_eq hp hz f2 hw, if_pos rfl]
  · generalize put 71 (.val (.int ((il.length : Int) - 1))) ρ = ρ1 at hI1
    refine bO_go σ (put 70 (.val r) ρ1) ?_ (bO_rt ?_)
    · rw [rv_of hI1.2.1, bV_some, mV_some, bV_some, hr]; rfl
    · rw [rv_of look_put_eq]
      rcases hV with ⟨rfl, rfl⟩ | ⟨i, rfl, rfl⟩
      · rfl
      · have e3 : (mV (mV (bV (rv 70 (put 70 (.val (.int i)) ρ1) σ) fun v σ => mV (bV (some (AV.str 73, σ)) fun v σ => mV (some (([] : List AV), σ)) fun l σ => (v :: l, σ)) fun l σ => (v :: l, σ)) fun l σ => (AV.tup l, σ)) fun v σ => Out.ret v σ) = some (.ret (.tup [.int i, .str 73]) σ) := by rw [rv_of look_put_eq]; rfl
        exact e3
theorem isNone_eq {w : AV} (h : isNoneV w = true) : w = .none := by
  cases w with
  | none => rfl
  | _ => cases h
theorem idx_mem {z : Nat × Ins} : ∀ (L : List Ins) (i : Nat), z ∈ idx i L → z.2 ∈ L
  | [], _, h => by cases h
  | a :: r, i, h => by
    rcases List.mem_cons.mp h with rfl | h
    · exact List.mem_cons_self
    · exact List.mem_cons_of_mem _ (idx_mem r _ h)
theorem pe_gen (C : CtxOk c σ u p) (hu : σ[u]? = some (mU (.lst procs) cs gs st)) (hpl : atI procs place = some (.obj p)) (hp : σ[p]? = some (mP n t need rest cont (.int c.R) fr (.lst (L.map enc)))) (hh : n_head_word [.obj u, .int place] σ = some (.none, σ))
    (hwf : ∀ i ∈ L, wf i = true) (hl : L.length ≤ 1000) {V : AV}
    (hV : match (idx 0 L).findSome? (wordQ c) with
      | some a => V = a
      | none => ∃ L0 z, L = L0 ++ [z] ∧ (if endB z then ∃ r, n_unread_place [.obj p] σ = some (r, σ) ∧ ((r = .none ∧ V = .none) ∨ ∃ i, r = .int i ∧ V = .tup [.int i, .str 73]) else V = .tup [.int ((L.length : Int) - 1), .str 72])) :
    n_procedure_error [.obj u, .int place, .int c.pr] σ = some (V, σ) := by
  have f1 : fits (L.map enc) = true := fits_of (by rw [List.length_map]; omega)
  rw [n_procedure_error_eq]
  have hI0 : peI u p c.pr (put 18 (.val (.obj p)) (peL u place (.int c.pr) .none)) := ⟨rfl, rfl, rfl⟩
  refine (congrArg fin (bO_go σ _ (pe_pre hh) (bO_go σ (peL u place (.int c.pr) .none) ?b (bO_go σ (put 18 (.val (.obj p)) (peL u place (.int c.pr) .none)) ?c ?d)))).trans fin_ret
  case b => rfl
  case c =>
    have r36 : ∀ σ, rv 36 (peL u place (.int c.pr) .none) σ = some (.int place, σ) := fun _ => rfl
    rw [fld_eq (ρ := peL u place (.int c.pr) .none) rfl hu (v := .lst procs) rfl, bV_some, r36, bV_some, subV_lst, hpl]; rfl
  case d =>
    rw [fld_eq hI0.2.1 hp (v := .lst (L.map enc)) rfl, bV_some]
    refine bO_find (σ := σ) (I := peI u p c.pr) (r := (idx 0 L).findSome? (wordQ c)) (X := some (.ret V σ)) ?h ?hk
    case h =>
      show Found _ _ (if fits _ then _ else _) _
      rw [if_pos f1, enumL_enc]
      refine forL_find (enc := encE enc) _ (wordQ c) (fun x hx ρ hI => ?_) hI0
      obtain ⟨b1, b2⟩ := peB_ok (i := x.1) hI (iwd C (hwf _ (idx_mem L 0 hx)))
      have b2' := b2
      unfold wordQ
      cases e : isNoneV (Wi c x.2) with
      | true => rw [if_pos rfl]; exact ⟨_, peI_put (peI_put (peI_put hI (by decide)) (by decide)) (by decide), b1 (isNone_eq e)⟩
      | false => rw [if_neg (by decide)]; exact b2' e
    case hk =>
      cases hq : (idx 0 L).findSome? (wordQ c) with
      | some a => rw [hq] at hV; subst hV; rfl
      | none =>
        rw [hq] at hV
        intro ρ hI
        obtain ⟨L0, z, rfl, hV⟩ := hV
        have hz : atI ((L0 ++ [z]).map enc) ((((L0 ++ [z]).map enc).length : Int) - 1) = some (enc z) := by
          rw [List.map_append]
          exact atI_last (by simpa using (show L0.length + 1 ≤ 1000000 by simp at hl; omega))
        have f2 : fits (AV.str (wI z) :: oI z) = true := by cases z <;> rfl
        have hw : isinV (.str (wI z)) t_ENDS = some (endB z) := isin_ends _
        have hlen : (((L0 ++ [z]).map enc).length : Int) = ((L0 ++ [z]).length : Int) := by rw [List.length_map]
        cases hb : endB z with
        | false =>
          rw [hb] at hw
          rw [hb, if_neg (by decide)] at hV
          rw [hV, ← hlen]
          exact peT_bad hI hp f1 hz f2 hw
        | true =>
          rw [hb] at hw
          rw [hb, if_pos rfl] at hV
          obtain ⟨r, hr, hV⟩ := hV
          exact peT_ok hI hp f1 hz f2 hw hr hV
end
end Mine
/-! part NV -/
namespace Mine
open PySem PyProof.Rows

/-! what an instruction reads and writes -/
noncomputable def regsW : Ins → List Int
  | .two w a _ => if w = 83 ∨ w = 84 ∨ w = 50 ∨ w = 9 then [a] else []
  | .clo a _ _ => [a] | .prim a _ _ => [a] | .fix x rows => (x :: rows).map (·.1)
  | _ => []
noncomputable def rowsR (own : List Int) : List (Int × List Int) → List Int
  | [] => []
  | x :: r => x.2.filter (fun v => !own.contains v) ++ rowsR own r
noncomputable def regsR : Ins → List Int
  | .two w _ b => if w = 84 ∨ w = 85 ∨ w = 86 then [b] else []
  | .clo _ _ ns => ns | .prim _ _ ns => ns | .fix x rows => rowsR ((x :: rows).map (·.1)) (x :: rows)
  | .brf a _ => [a] | .call a b ns => a :: b :: ns | .give a ns => a :: ns
  | _ => []
noncomputable def labI : Ins → AV
  | .jump l => .int l | .brf _ l => .int l
  | _ => .none
noncomputable def plain : Ins → Bool
  | .bad => false | .gave _ _ => false
  | _ => true
section
variable {σ : Sto}
theorem oAp_of {ρ : Loc} {k : Nat} {v : AV} {l : List AV} (h : look k ρ = some (.own l)) (f : fits l = true) : oAp ρ k v σ = some (.next (put k (.own (l ++ [v])) ρ) σ) := by unfold oAp; rw [h]; exact if_pos f
theorem oEx_of {ρ : Loc} {k : Nat} {v : AV} {l m : List AV} (h : look k ρ = some (.own l)) (hi : items v = some m) (f : fits l = true) (f2 : fits m = true) : oEx ρ k v σ = some (.next (put k (.own (l ++ m)) ρ) σ) := by
  unfold oEx; rw [hi, Option.bind_some, h]; exact if_pos (by rw [f, f2]; rfl)
theorem oFz_of {ρ : Loc} {k : Nat} {l : List AV} (h : look k ρ = some (.own l)) : oFz ρ k σ = some (.next (put k (.val (.lst l)) ρ) σ) := by unfold oFz; rw [h]
theorem pairsOf {i : Ins} (hi : wf i = true) (hp : plain i = true) : n_operand_pairs [enc i] σ = some (.lst (((sI i).zip (oI i)).map encP), σ) := by
  unfold enc
  cases i with
  | two w a b =>
    rcases wf_two hi with ((((rfl | rfl) | rfl) | rfl) | rfl) | rfl <;> exact opairs rfl (of_decide_eq_true rfl) (by decide)
  | clo a k ns => exact opairs rfl (of_decide_eq_true rfl) (by decide)
  | prim a k ns => exact opairs rfl (of_decide_eq_true rfl) (by decide)
  | fix x rows => exact opairs rfl (of_decide_eq_true rfl) (by decide)
  | jump l => exact opairs rfl (of_decide_eq_true rfl) (by decide)
  | brf a l => exact opairs rfl (of_decide_eq_true rfl) (by decide)
  | call a b ns => exact opairs rfl (of_decide_eq_true rfl) (by decide)
  | give a ns => exact opairs rfl (of_decide_eq_true rfl) (by decide)
  | bad => cases hp
  | gave a ns => cases hp
theorem label_eq {i : Ins} (hi : wf i = true) (hp : plain i = true) : n_label_of [enc i] σ = some (labI i, σ) := by
  cases i with
  | two w a b =>
    rcases wf_two hi with ((((rfl | rfl) | rfl) | rfl) | rfl) | rfl <;> kernel_rfl
  | bad => cases hp
  | gave a ns => cases hp
  | _ => kernel_rfl
theorem compL_fm {α : Type} {enc : α → AV} {g : α → Option AV} {f : AV → Sto → Option (Option AV × Sto)} {σ : Sto} : ∀ {L : List α}, (∀ v ∈ L, f (enc v) σ = some (g v, σ)) → compL f (L.map enc) σ = some (L.filterMap g, σ)
  | [], _ => rfl
  | v :: r, h => by
    rw [List.map_cons, compL, h v List.mem_cons_self]
    simp only [Option.bind_some]
    rw [compL_fm fun w hw => h w (List.mem_cons_of_mem _ hw), List.filterMap_cons]
    cases g v <;> rfl
theorem isinL_int (x : Int) : ∀ l : List Int, isinL (.int x) (l.map .int) = some (l.contains x)
  | [] => rfl
  | a :: r => by
    rw [List.map_cons, isinL, isinL_int x r]
    show some (decide (a = x) || r.contains x) = _
    rw [List.contains_cons]
    by_cases h : a = x
    · subst h; simp
    · have : (x == a) = false := by simpa using fun z => h z.symm
      rw [this]; simp [h]
theorem own_rows {own : List Int} (hown : own.length ≤ 1000000) {f : AV → Loc → Sto → Option Out} (hf : ∀ (v : AV) (ρ : Loc) (l : List AV) (ns : List Int) (r : Int), v = encRow (r, ns) → ns.length ≤ 100 → fits l = true → look 0 ρ = some (.own l) → look 28 ρ = some (.val (.lst (own.map .int))) →
      ∃ ρ', look 0 ρ' = some (.own (l ++ (ns.filter (fun v => !own.contains v)).map .int)) ∧ look 28 ρ' = some (.val (.lst (own.map .int))) ∧ f v ρ σ = some (.next ρ' σ)) :
    ∀ (rows : List (Int × List Int)) (ρ : Loc) (l : List AV), (∀ y ∈ rows, y.2.length ≤ 100) → l.length + rows.length * 100 ≤ 1000000 → look 0 ρ = some (.own l) → look 28 ρ = some (.val (.lst (own.map .int))) →
      ∃ ρ', look 0 ρ' = some (.own (l ++ (rowsR own rows).map .int)) ∧ forL f (rows.map encRow) ρ σ = some (.next ρ' σ)
  | [], ρ, l, _, _, h0, _ => ⟨ρ, by simpa [rowsR] using h0, rfl⟩
  | x :: r, ρ, l, hl, hn, h0, h28 => by
    have h1 := hl x List.mem_cons_self
    obtain ⟨ρ', a, b, e⟩ := hf (encRow x) ρ l x.2 x.1 rfl h1 (fits_of (by simp at hn; omega)) h0 h28
    have h2 : (l ++ (x.2.filter (fun v => !own.contains v)).map AV.int).length + r.length * 100 ≤ 1000000 := by
      have := List.length_filter_le (fun v => !own.contains v) x.2
      simp only [List.length_append, List.length_map, List.length_cons] at hn ⊢
      omega
    obtain ⟨ρ'', a', e'⟩ := own_rows hown hf r ρ' _ (fun y hy => hl y (List.mem_cons_of_mem _ hy)) h2 a b
    refine ⟨ρ'', ?_, ?_⟩
    · rw [a']; simp [rowsR]
    · rw [List.map_cons, forL, e, Option.bind_some]; exact e'
noncomputable def rowB (ρ : Loc) (σ : Sto) : Option Out := bO (bV (mV (bV (bV (rv 29 ρ σ) fun u σ => bV (some (AV.int 2, σ)) fun v σ => mO (subV σ u v) σ) (oC 30 ρ (fun ρ σ => bV (bV (rv 30 ρ σ) fun u σ => bV (rv 28 ρ σ) fun v σ => mN (isinV u v) σ) fun v σ => (asB v).map fun b => (b, σ)) (fun ρ σ => rv 30 ρ σ))) fun l σ => (AV.lst l, σ)) (oEx ρ 0)) fun ρ σ => some (Out.next ρ σ)
noncomputable def rdRows (ρ : Loc) (σ : Sto) : Option Out := bO (mV (mV (bV (rv 25 ρ σ) (oC 29 ρ (fun (_ : Loc) (σ : Sto) => some (true, σ)) (fun ρ σ => bV (rv 29 ρ σ) fun u σ => bV (some (AV.int 0, σ)) fun v σ => mO (subV σ u v) σ))) fun l σ => (AV.lst l, σ)) fun v σ => Out.next (put 28 (.val v) ρ) σ) fun ρ σ => bO (bV (rv 25 ρ σ) fun v σ => (items v).bind fun L => forL (fun v ρ σ => rowB (put 29 (.val v) ρ) σ) L ρ σ) fun ρ σ => some (Out.next ρ σ)
noncomputable def rdB (ρ : Loc) (σ : Sto) : Option Out := bO (bV (bV (rv 23 ρ σ) fun u σ => bV (some (AV.str 24, σ)) fun v σ => mB (cmpV CO.eq u v) σ) fun v σ => (asB v).bind fun t => if t then bO (bV (rv 25 ρ σ) (oAp ρ 0)) fun ρ σ => some (Out.next ρ σ) else bO (bV (bV (rv 23 ρ σ) fun u σ => bV (some (AV.str 26, σ)) fun v σ => mB (cmpV CO.eq u v) σ) fun v σ => (asB v).bind fun t => if t then bO (bV (rv 25 ρ σ) (oEx ρ 0)) fun ρ σ => some (Out.next ρ σ) else bO (bV (bV (rv 23 ρ σ) fun u σ => bV (some (AV.str 27, σ)) fun v σ => mB (cmpV CO.eq u v) σ) fun v σ => (asB v).bind fun t => if t then rdRows ρ σ else some (Out.next ρ σ)) fun ρ σ => some (Out.next ρ σ)) fun ρ σ => some (Out.next ρ σ)) fun ρ σ => some (Out.next ρ σ)
theorem n_registers_read_eq : n_registers_read = fun l σ => (bindAll p_registers_read l).bind fun ρ => fin (bO (mV (some (([] : List AV), σ)) fun l σ => Out.next (put 0 (.own l) ρ) σ) fun ρ σ => bO (bV (bV (bV (rv 21 ρ σ) fun v σ => mV (some (([] : List AV), σ)) fun l σ => (v :: l, σ)) n_operand_pairs) (oF2 23 25 ρ rdB)) fun ρ σ => bO (oFz ρ 0 σ) fun ρ σ => bO (mV (rv 0 ρ σ) fun v σ => Out.ret v σ) fun ρ σ => some (Out.next ρ σ)) := rfl
theorem row_ok {own ns : List Int} {ρ : Loc} {l : List AV} {r : Int} (hns : ns.length ≤ 100) (hfl : fits l = true) (h0 : look 0 ρ = some (.own l)) (h28 : look 28 ρ = some (.val (.lst (own.map .int)))) :
    ∃ ρ', look 0 ρ' = some (.own (l ++ (ns.filter (fun v => !own.contains v)).map .int)) ∧ look 28 ρ' = some (.val (.lst (own.map .int))) ∧ rowB (put 29 (.val (encRow (r, ns))) ρ) σ = some (.next ρ' σ) := by
  have fm : ∀ ns : List Int, ns.length ≤ 100 → fits (ns.map AV.int) = true := fun ns hn => fits_of (by rw [List.length_map]; omega)
  unfold rowB
  have hcm : oC 30 (put 29 (.val (encRow (r, ns))) ρ) (fun ρ σ => bV (bV (rv 30 ρ σ) fun u σ => bV (rv 28 ρ σ) fun v σ => mN (isinV u v) σ) fun v σ => Option.map (fun b => (b, σ)) (asB v)) (fun ρ σ => rv 30 ρ σ) (.tup (ns.map .int)) σ = some ((ns.filter fun v => !own.contains v).map .int, σ) := by
    unfold oC
    rw [show items (.tup (ns.map .int)) = some (ns.map .int) from rfl, Option.bind_some, if_pos (fm ns hns)]
    rw [compL_fm (g := fun n => if own.contains n then none else some (.int n)) fun n _ => ?_]
    · congr 2
      clear hns hfl
      induction ns with
      | nil => rfl
      | cons y q ih =>
        rw [List.filterMap_cons, List.filter_cons]
        cases hy : own.contains y
        · exact congrArg (AV.int y :: ·) ih
        · exact ih
    · have r28 : ∀ σ, rv 28 (put 30 (.val (.int n)) (valsOf (put 29 (.val (encRow (r, ns))) ρ))) σ = some (.lst (own.map .int), σ) := rv_of (by rw [look_put_ne (by decide), look_valsOf, look_put_ne (by decide), h28]; rfl)
      have hin : isinV (.int n) (.lst (own.map .int)) = some (own.contains n) := isinL_int n own
      cases hy : own.contains n <;> (rw [hy] at hin; simp [r28, hin, bV_some, mV_some, bO_next, bO_ret, fin_next, fin_ret, mO_some, mB_some, mN_some, asB_bool, bB_last, bB_andF, bB_andT, bB_orT, bB_orF, rv_cons_eq, rv_cons_ne, rv_put_eq, rv_put_ne, bL_put_eq, oA_obj, fldO_some, asB_map, asB_bind, look_cons_eq, look_cons_ne, field_cons_eq, field_cons_ne, look_put_ne, look_put_eq, iteT, iteF, lenV_tup, lenV_lst])
  refine ⟨put 0 (.own (l ++ (ns.filter fun v => !own.contains v).map .int)) (put 29 (.val (encRow (r, ns))) ρ), ?_, ?_, ?_⟩
  rotate_left 2
  · have h0' : look 0 (put 29 (.val (encRow (r, ns))) ρ) = some (.own l) := by rw [look_put_ne (by decide)]; exact h0
    have ff : fits ((ns.filter fun v => !own.contains v).map AV.int) = true := fits_of (by rw [List.length_map]; have := List.length_filter_le (fun v => !own.contains v) ns; omega)
    have hr2 : subV σ (encRow (r, ns)) (.int 2) = some (.tup (ns.map .int)) := by
      show atI _ _ = _
      unfold atI
      rw [if_pos (fits_of (by simp))]; rfl
    rw [rv_of look_put_eq, bV_some, bV_some, hr2, mO_some, bV_some, hcm, mV_some, bV_some, oEx_of h0' rfl hfl ff, bO_next]
  · exact look_put_eq
  · rw [look_put_ne (by decide), look_put_ne (by decide)]; exact h28
theorem items_tup {l : List AV} : items (.tup l) = some l := rfl
theorem rows_own {rs : List (Int × List Int)} {ρ : Loc} (hn : rs.length ≤ 100) : oC 29 ρ (fun (_ : Loc) (σ : Sto) => some (true, σ)) (fun ρ σ => bV (rv 29 ρ σ) fun u σ => bV (some (AV.int 0, σ)) fun v σ => mO (subV σ u v) σ) (.tup (rs.map encRow)) σ = some ((rs.map (·.1)).map .int, σ) := by
  rw [List.map_map]
  exact oC_mapE (enc := encRow) rfl (by omega) (fun _ _ => rfl) fun v _ => by
    have : subV σ (encRow v) (.int 0) = some (.int v.1) := rfl
    rw [rv_of look_put_eq, bV_some, bV_some, this]; rfl
theorem rdRows_ok {rs : List (Int × List Int)} {ρ : Loc} {l : List AV} (h25 : look 25 ρ = some (.val (.tup (rs.map encRow)))) (h0 : look 0 ρ = some (.own l)) (hn : rs.length ≤ 100) (hall : ∀ y ∈ rs, y.2.length ≤ 100) (hb : l.length + rs.length * 100 ≤ 1000000) :
    ∃ ρ', look 0 ρ' = some (.own (l ++ (rowsR (rs.map (·.1)) rs).map .int)) ∧ rdRows ρ σ = some (.next ρ' σ) := by
  obtain ⟨ρ', a, e⟩ := own_rows (σ := σ) (own := rs.map (·.1)) (f := fun v ρ σ => rowB (put 29 (.val v) ρ) σ) (by rw [List.length_map]; omega) (fun v ρ l ns r hv hns hfl h0 h28 => by subst hv; exact row_ok hns hfl h0 h28)
    rs (put 28 (.val (.lst ((rs.map (·.1)).map .int))) ρ) l hall hb (by rw [look_put_ne (by decide)]; exact h0) look_put_eq
  refine ⟨ρ', a, ?_⟩
  unfold rdRows
  have r25 : ∀ σ, rv 25 (put 28 (.val (.lst ((rs.map (·.1)).map .int))) ρ) σ = some (.tup (rs.map encRow), σ) := rv_of (by rw [look_put_ne (by decide)]; exact h25)
  rw [rv_of h25, bV_some, rows_own hn, mV_some, mV_some, bO_next, r25, bV_some, items_tup, Option.bind_some, e, bO_next]
theorem eq_t {s : Nat} : cmpV .eq (.str s) (.str s) = some true := by show some (decide (s = s)) = _; rw [decide_eq_true rfl]
theorem eq_f {s k : Nat} (h : s ≠ k) : cmpV .eq (.str s) (.str k) = some false := by show some (decide (s = k)) = _; rw [decide_eq_false h]
theorem tst_t {ρ : Loc} {k s : Nat} {X Y : Sto → Option Out} (h : look k ρ = some (.val (.str s))) : (bV (bV (rv k ρ σ) fun u σ => bV (some (AV.str s, σ)) fun v σ => mB (cmpV CO.eq u v) σ) fun v σ => (asB v).bind fun t => if t = true then X σ else Y σ) = X σ := by
  rw [rv_of h, bV_some, bV_some, eq_t]; rfl
theorem tst_f {ρ : Loc} {k s j : Nat} {X Y : Sto → Option Out} (h : look k ρ = some (.val (.str s))) (n : s ≠ j) : (bV (bV (rv k ρ σ) fun u σ => bV (some (AV.str j, σ)) fun v σ => mB (cmpV CO.eq u v) σ) fun v σ => (asB v).bind fun t => if t = true then X σ else Y σ) = Y σ := by
  rw [rv_of h, bV_some, bV_some, eq_f n]; rfl
theorem rdB_24 {ρ : Loc} {l : List AV} {v : AV} (h23 : look 23 ρ = some (.val (.str 24))) (h25 : look 25 ρ = some (.val v)) (h0 : look 0 ρ = some (.own l)) (f : fits l = true) : rdB ρ σ = some (.next (put 0 (.own (l ++ [v])) ρ) σ) :=
  bO_n ((tst_t h23).trans (bO_n (by rw [rv_of h25, bV_some, oAp_of h0 f])))
theorem rdB_26 {ρ : Loc} {l m : List AV} (h23 : look 23 ρ = some (.val (.str 26))) (h25 : look 25 ρ = some (.val (.tup m))) (h0 : look 0 ρ = some (.own l)) (f : fits l = true) (f2 : fits m = true) : rdB ρ σ = some (.next (put 0 (.own (l ++ m)) ρ) σ) :=
  bO_n ((tst_f h23 (by decide)).trans (bO_n ((tst_t h23).trans (bO_n (by rw [rv_of h25, bV_some, oEx_of h0 rfl f f2])))))
theorem rdB_27 {ρ ρ' : Loc} (h23 : look 23 ρ = some (.val (.str 27))) (h : rdRows ρ σ = some (.next ρ' σ)) : rdB ρ σ = some (.next ρ' σ) :=
  bO_n ((tst_f h23 (by decide)).trans (bO_n ((tst_f h23 (by decide)).trans (bO_n ((tst_t h23).trans h)))))
theorem rdB_x {ρ : Loc} {s : Nat} (h23 : look 23 ρ = some (.val (.str s))) (n : s ≠ 24 ∧ s ≠ 26 ∧ s ≠ 27) : rdB ρ σ = some (.next ρ σ) :=
  bO_n ((tst_f h23 n.1).trans (bO_n ((tst_f h23 n.2.1).trans (bO_n ((tst_f h23 n.2.2).trans rfl)))))
noncomputable abbrev PairOk (σ : Sto) (b : Loc → Sto → Option Out) (rd : Nat × AV → List AV) (p : Nat × AV) : Prop :=
  ∀ ρ l, look 0 ρ = some (.own l) → look 23 ρ = some (.val (.str p.1)) → look 25 ρ = some (.val p.2) → l.length + (rd p).length ≤ 900000 → ∃ ρ', look 0 ρ' = some (.own (l ++ rd p)) ∧ b ρ σ = some (.next ρ' σ)
theorem pairs_loop {b : Loc → Sto → Option Out} {rd : Nat × AV → List AV} : ∀ (ps : List (Nat × AV)) (ρ : Loc) (l : List AV), (∀ p ∈ ps, PairOk σ b rd p) → l.length + (ps.map rd).flatten.length ≤ 900000 → look 0 ρ = some (.own l) →
    ∃ ρ', look 0 ρ' = some (.own (l ++ (ps.map rd).flatten)) ∧ oF2 23 25 ρ b (.lst (ps.map encP)) σ = some (.next ρ' σ)
  | [], ρ, l, _, _, h0 => ⟨ρ, by rw [h0]; simp, rfl⟩
  | p :: r, ρ, l, hb, hl, h0 => by
    rw [List.map_cons, List.flatten_cons, List.length_append] at hl
    obtain ⟨ρ1, a1, e1⟩ := hb p List.mem_cons_self (put 25 (.val p.2) (put 23 (.val (.str p.1)) ρ)) l (by rw [look_put_ne (by decide), look_put_ne (by decide)]; exact h0) (by rw [look_put_ne (by decide)]; exact look_put_eq) look_put_eq (by omega)
    obtain ⟨ρ2, a2, e2⟩ := pairs_loop r ρ1 (l ++ rd p) (fun q hq => hb q (List.mem_cons_of_mem _ hq)) (by rw [List.length_append]; omega) a1
    refine ⟨ρ2, by rw [a2, List.map_cons, List.flatten_cons, List.append_assoc], ?_⟩
    rw [oF2_lst, List.map_cons, forL]
    show Option.bind ((putAll [23, 25] [.str p.1, p.2] ρ).bind fun ρ => b ρ σ) _ = _
    rw [show putAll [23, 25] [.str p.1, p.2] ρ = some (put 25 (.val p.2) (put 23 (.val (.str p.1)) ρ)) from rfl, Option.bind_some, e1, Option.bind_some]
    exact e2
theorem read_of {i : Ins} {ps : List (Nat × AV)} {rd : Nat × AV → List AV} (h : n_operand_pairs [enc i] σ = some (.lst (ps.map encP), σ)) (hb : ∀ p ∈ ps, PairOk σ rdB rd p) (hl : (ps.map rd).flatten.length ≤ 900000) : n_registers_read [enc i] σ = some (.lst (ps.map rd).flatten, σ) := by
  obtain ⟨ρ', a, e⟩ := pairs_loop ps (put 0 (.own []) [(21, .val (enc i))]) [] hb (by simpa using hl) look_put_eq
  rw [List.nil_append] at a
  rw [n_registers_read_eq]
  show fin (bO (mV (some (([] : List AV), σ)) fun l σ => Out.next (put 0 (.own l) [(21, .val (enc i))]) σ) _) = _
  have r21 : rv 21 (put 0 (.own []) [(21, .val (enc i))]) σ = some (enc i, σ) := rfl
  rw [mV_some, bO_next, r21, bV_some, mV_some, bV_some, h, bV_some, e, bO_next, oFz_of a, bO_next, rv_of look_put_eq, mV_some]
  rfl
noncomputable def wrB (ρ : Loc) (σ : Sto) : Option Out := bO (bV (bV (rv 23 ρ σ) fun u σ => bV (some (AV.str 32, σ)) fun v σ => mB (cmpV CO.eq u v) σ) fun v σ => (asB v).bind fun t => if t then bO (bV (rv 25 ρ σ) (oAp ρ 0)) fun ρ σ => some (Out.next ρ σ) else bO (bV (bV (rv 23 ρ σ) fun u σ => bV (some (AV.str 27, σ)) fun v σ => mB (cmpV CO.eq u v) σ) fun v σ => (asB v).bind fun t => if t then bO (bV (mV (bV (rv 25 ρ σ) (oC 29 ρ (fun (_ : Loc) (σ : Sto) => some (true, σ)) (fun ρ σ => bV (rv 29 ρ σ) fun u σ => bV (some (AV.int 0, σ)) fun v σ => mO (subV σ u v) σ))) fun l σ => (AV.lst l, σ)) (oEx ρ 0)) fun ρ σ => some (Out.next ρ σ) else some (Out.next ρ σ)) fun ρ σ => some (Out.next ρ σ)) fun ρ σ => some (Out.next ρ σ)
theorem n_registers_written_eq : n_registers_written = fun l σ => (bindAll p_registers_written l).bind fun ρ => fin (bO (mV (some (([] : List AV), σ)) fun l σ => Out.next (put 0 (.own l) ρ) σ) fun ρ σ => bO (bV (bV (bV (rv 21 ρ σ) fun v σ => mV (some (([] : List AV), σ)) fun l σ => (v :: l, σ)) n_operand_pairs) (oF2 23 25 ρ wrB)) fun ρ σ => bO (oFz ρ 0 σ) fun ρ σ => bO (mV (rv 0 ρ σ) fun v σ => Out.ret v σ) fun ρ σ => some (Out.next ρ σ)) := rfl
theorem wrB_32 {ρ : Loc} {l : List AV} {v : AV} (h23 : look 23 ρ = some (.val (.str 32))) (h25 : look 25 ρ = some (.val v)) (h0 : look 0 ρ = some (.own l)) (f : fits l = true) : wrB ρ σ = some (.next (put 0 (.own (l ++ [v])) ρ) σ) :=
  bO_n ((tst_t h23).trans (bO_n (by rw [rv_of h25, bV_some, oAp_of h0 f])))
theorem wrB_27 {ρ : Loc} {l : List AV} {rs : List (Int × List Int)} (h23 : look 23 ρ = some (.val (.str 27))) (h25 : look 25 ρ = some (.val (.tup (rs.map encRow)))) (h0 : look 0 ρ = some (.own l)) (f : fits l = true) (hn : rs.length ≤ 100) : wrB ρ σ = some (.next (put 0 (.own (l ++ (rs.map (·.1)).map .int)) ρ) σ) :=
  bO_n ((tst_f h23 (by decide)).trans (bO_n ((tst_t h23).trans (bO_n (by
    rw [rv_of h25, bV_some, rows_own hn, mV_some, bV_some, oEx_of h0 rfl f (fits_of (by rw [List.length_map, List.length_map]; omega))])))))
theorem wrB_x {ρ : Loc} {s : Nat} (h23 : look 23 ρ = some (.val (.str s))) (n : s ≠ 32 ∧ s ≠ 27) : wrB ρ σ = some (.next ρ σ) :=
  bO_n ((tst_f h23 n.1).trans (bO_n ((tst_f h23 n.2).trans rfl)))
theorem wrote_of {i : Ins} {ps : List (Nat × AV)} {rd : Nat × AV → List AV} (h : n_operand_pairs [enc i] σ = some (.lst (ps.map encP), σ)) (hb : ∀ p ∈ ps, PairOk σ wrB rd p) (hl : (ps.map rd).flatten.length ≤ 900000) : n_registers_written [enc i] σ = some (.lst (ps.map rd).flatten, σ) := by
  obtain ⟨ρ', a, e⟩ := pairs_loop ps (put 0 (.own []) [(21, .val (enc i))]) [] hb (by simpa using hl) look_put_eq
  rw [List.nil_append] at a
  rw [n_registers_written_eq]
  show fin (bO (mV (some (([] : List AV), σ)) fun l σ => Out.next (put 0 (.own l) [(21, .val (enc i))]) σ) _) = _
  have r21 : rv 21 (put 0 (.own []) [(21, .val (enc i))]) σ = some (enc i, σ) := rfl
  rw [mV_some, bO_next, r21, bV_some, mV_some, bV_some, h, bV_some, e, bO_next, oFz_of a, bO_next, rv_of look_put_eq, mV_some]
  rfl
theorem written_eq {i : Ins} (hi : wf i = true) (hp : plain i = true) : n_registers_written [enc i] σ = some (.lst ((regsW i).map .int), σ) := by
  cases i with
  | two w a b =>
    rcases wf_two hi with ((((rfl | rfl) | rfl) | rfl) | rfl) | rfl <;> kernel_rfl
  | fix x rows =>
    have h := pairsOf (σ := σ) hi hp
    have hl : (x :: rows).length ≤ 100 := (wf_fix hi).1
    have e := wrote_of (rd := fun _ => ((x :: rows).map Prod.fst).map .int) h (all1 fun ρ l h0 h23 h25 q => ⟨_, look_put_eq, wrB_27 h23 h25 h0 (fits_of (by omega)) hl⟩) (by show (((x :: rows).map Prod.fst).map AV.int ++ []).length ≤ 900000; rw [List.append_nil, List.length_map, List.length_map]; exact Nat.le_trans hl (by decide))
    exact e.trans (congrArg (fun l => some (AV.lst l, σ)) (List.append_nil _))
  | bad => cases hp
  | gave a ns => cases hp
  | _ => kernel_rfl
theorem rowsR_len (own : List Int) : ∀ rs : List (Int × List Int), (∀ y ∈ rs, y.2.length ≤ 100) → (rowsR own rs).length ≤ rs.length * 100
  | [], _ => Nat.le_refl _
  | x :: r, h => by
    have h1 := rowsR_len own r fun y hy => h y (List.mem_cons_of_mem _ hy)
    have h2 := h x List.mem_cons_self
    have h3 := List.length_filter_le (fun v => !own.contains v) x.2
    rw [rowsR, List.length_append, List.length_cons]
    omega
noncomputable def rdP (p : Nat × AV) : List AV := if p.1 = 24 then [p.2] else match p.2 with
  | .tup l => l
  | _ => []
theorem pk_s {v : AV} : PairOk σ rdB rdP (24, v) := fun ρ l h0 h23 h25 hl => ⟨_, look_put_eq, rdB_24 h23 h25 h0 (fits_of (by omega))⟩
theorem pk_ss {ns : List Int} (hn : ns.length ≤ 100) : PairOk σ rdB rdP (26, .tup (ns.map .int)) := fun ρ l h0 h23 h25 hl => ⟨_, look_put_eq, rdB_26 h23 h25 h0 (fits_of (by omega)) (fits_of (by show (ns.map AV.int).length ≤ _; rw [List.length_map]; omega))⟩
theorem pk_x {s : Nat} {v : Int} (n : s ≠ 24 ∧ s ≠ 26 ∧ s ≠ 27) : PairOk σ rdB rdP (s, .int v) := fun ρ l h0 h23 h25 hl => ⟨ρ, by rw [h0]; unfold rdP; rw [if_neg n.1, List.append_nil], rdB_x h23 n⟩
theorem read_pl {i : Ins} (hi : wf i = true) (hp : plain i = true) (hb : ∀ p ∈ (sI i).zip (oI i), PairOk σ rdB rdP p) (e : (((sI i).zip (oI i)).map rdP).flatten = (regsR i).map .int) (hl : (regsR i).length ≤ 900000) : n_registers_read [enc i] σ = some (.lst ((regsR i).map .int), σ) := by
  rw [← e]
  exact read_of (pairsOf hi hp) hb (by rw [e, List.length_map]; exact hl)
theorem read_eq {i : Ins} (hi : wf i = true) (hp : plain i = true) : n_registers_read [enc i] σ = some (.lst ((regsR i).map .int), σ) := by
  cases i with
  | two w a b =>
    rcases wf_two hi with ((((rfl | rfl) | rfl) | rfl) | rfl) | rfl <;> kernel_rfl
  | fix x rows =>
    have h := pairsOf (σ := σ) hi hp
    replace hi := wf_fix hi
    have hl : (x :: rows).length ≤ 100 := hi.1
    have hb : (rowsR ((x :: rows).map (·.1)) (x :: rows)).length ≤ 10000 := Nat.le_trans (rowsR_len _ _ hi.2) (Nat.mul_le_mul_right 100 hl)
    have e := read_of (rd := fun _ => (rowsR ((x :: rows).map (·.1)) (x :: rows)).map .int) h (all1 fun ρ l h0 h23 h25 q => by
      obtain ⟨ρ', a, e⟩ := rdRows_ok (σ := σ) h25 h0 hl hi.2 (by omega)
      exact ⟨ρ', a, rdB_27 h23 e⟩) (by show ((rowsR ((x :: rows).map Prod.fst) (x :: rows)).map AV.int ++ []).length ≤ 900000; rw [List.append_nil, List.length_map]; exact Nat.le_trans hb (by decide))
    exact e.trans (congrArg (fun l => some (AV.lst l, σ)) (List.append_nil _))
  | bad => cases hp
  | gave a ns => cases hp
  | clo a k ns =>
    have h := wf_clo hi
    exact read_pl hi hp (all3 (pk_x (by decide)) (pk_x (by decide)) (pk_ss h.2)) (List.append_nil _) (by have := h.2; show ns.length ≤ _; omega)
  | prim a k ns =>
    have h : ns.length ≤ 100 := of_decide_eq_true hi
    exact read_pl hi hp (all3 (pk_x (by decide)) (pk_x (by decide)) (pk_ss h)) (List.append_nil _) (by show ns.length ≤ _; omega)
  | call a b ns =>
    have h : ns.length ≤ 100 := of_decide_eq_true hi
    exact read_pl hi hp (all3 pk_s pk_s (pk_ss h)) (congrArg (fun l => AV.int a :: AV.int b :: l) (List.append_nil _)) (by show ns.length + 1 + 1 ≤ _; omega)
  | give a ns =>
    have h : ns.length ≤ 100 := of_decide_eq_true hi
    exact read_pl hi hp (all2 pk_s (pk_ss h)) (congrArg (fun l => AV.int a :: l) (List.append_nil _)) (by show ns.length + 1 ≤ _; omega)
  | jump l => kernel_rfl
  | brf a l => kernel_rfl
end
end Mine
/-! part NW -/
namespace Mine
open PySem

theorem bL_put_ne {β : Type} {ρ : Loc} {j k : Nat} {v : LV} {f : List AV → Option β} (h : j ≠ k) : bL k (put j v ρ) f = bL k ρ f := by unfold bL; rw [look_put_ne h]
noncomputable def foldO {α S : Type} (step : S → α → Option S) : S → List α → Option S
  | s, [] => some s
  | s, v :: r => (step s v).bind fun s => foldO step s r
theorem forL_fold {α S : Type} {f : AV → Loc → Sto → Option Out} {enc : α → AV} {σ : Sto} (I : S → Loc → Prop) (step : S → α → Option S) : ∀ {L : List α} {s s' : S} {ρ : Loc}, (∀ v ∈ L, ∀ s s' ρ, I s ρ → step s v = some s' → ∃ ρ', I s' ρ' ∧ f (enc v) ρ σ = some (.next ρ' σ)) →
    foldO step s L = some s' → I s ρ → ∃ ρ', I s' ρ' ∧ forL f (L.map enc) ρ σ = some (.next ρ' σ)
  | [], s, s', ρ, _, e, hI => by cases e; exact ⟨ρ, hI, rfl⟩
  | v :: r, s, s', ρ, h, e, hI => by
    rw [foldO] at e
    obtain ⟨s1, e1, e2⟩ := Option.bind_eq_some_iff.mp e
    obtain ⟨ρ1, hI1, e3⟩ := h v List.mem_cons_self s s1 ρ hI e1
    obtain ⟨ρ2, hI2, e4⟩ := forL_fold I step (fun w hw => h w (List.mem_cons_of_mem _ hw)) e2 hI1
    refine ⟨ρ2, hI2, ?_⟩
    rw [List.map_cons, forL, e3, Option.bind_some]
    exact e4
noncomputable def maskS (acc r : Int) : Option Int := if decide (0 ≤ r) && decide (r ≤ 60) then some (Builtin.bitOr acc (1 * 2 ^ r.toNat)) else none
noncomputable def maskI (ns : List Int) : Option Int := foldO maskS 0 ns
section
variable {σ : Sto}
theorem mask_eq {ns : List Int} {m : Int} (h : maskI ns = some m) : n_mask_of [.lst (ns.map .int)] σ = some (.int m, σ) := by
  unfold n_mask_of s_mask_of
  simp only [p_mask_of, bindAll, Option.map_some, Option.bind_some]
  obtain ⟨ρ', hI, e⟩ := forL_fold (σ := σ) (enc := AV.int) (f := fun v ρ σ => (fun ρ => bO (mV (bV (rv 0 ρ σ) fun u σ => bV (bV (some (AV.int 1, σ)) fun u σ => bV (rv 30 ρ σ) fun v σ => mO (binV BO.shl u v) σ) fun v σ => mO (binV BO.bor u v) σ) fun v σ => Out.next (put 0 (.val v) ρ) σ) fun ρ σ => some (Out.next ρ σ)) (put 30 (.val v) ρ))
    (fun (a : Int) ρ => look 0 ρ = some (.val (.int a))) maskS (L := ns) (s := 0) (s' := m) (ρ := put 0 (.val (.int 0)) [(8, .val (.lst (ns.map .int)))]) (fun v _ s s' ρ hI hs => by
      unfold maskS at hs
      split at hs
      · rename_i hb
        cases hs
        refine ⟨put 0 (.val (.int (Builtin.bitOr s (1 * 2 ^ v.toNat)))) (put 30 (.val (.int v)) ρ), look_put_eq, ?_⟩
        have r0 := rv_of hI
        have hsh : binV .shl (.int 1) (.int v) = some (.int (1 * 2 ^ v.toNat)) := by
          show (if (decide (0 ≤ v) && decide (v ≤ 60) && small 1) = true then some (1 * 2 ^ v.toNat) else none : Option Int).map AV.int = _
          rw [if_pos (by rw [hb]; rfl)]; rfl
        have hbo : binV .bor (.int s) (.int (1 * 2 ^ v.toNat)) = some (.int (Builtin.bitOr s (1 * 2 ^ v.toNat))) := rfl
        simp only [bV_some, mV_some, bO_next, bO_ret, fin_next, fin_ret, mO_some, mB_some, mN_some, asB_bool, bB_last, bB_andF, bB_andT, bB_orT, bB_orF, rv_cons_eq, rv_cons_ne, rv_put_eq, rv_put_ne, bL_put_eq, oA_obj, fldO_some, asB_map, asB_bind, look_cons_eq, look_cons_ne, field_cons_eq, field_cons_ne, look_put_ne, look_put_eq, iteT, iteF, lenV_tup, lenV_lst]
        rw [rv_put_ne (by decide), r0]
        simp only [bV_some, mV_some, bO_next, bO_ret, fin_next, fin_ret, mO_some, mB_some, mN_some, asB_bool, bB_last, bB_andF, bB_andT, bB_orT, bB_orF, rv_cons_eq, rv_cons_ne, rv_put_eq, rv_put_ne, bL_put_eq, oA_obj, fldO_some, asB_map, asB_bind, look_cons_eq, look_cons_ne, field_cons_eq, field_cons_ne, look_put_ne, look_put_eq, iteT, iteF, lenV_tup, lenV_lst]
        rw [hsh]
        simp only [bV_some, mV_some, bO_next, bO_ret, fin_next, fin_ret, mO_some, mB_some, mN_some, asB_bool, bB_last, bB_andF, bB_andT, bB_orT, bB_orF, rv_cons_eq, rv_cons_ne, rv_put_eq, rv_put_ne, bL_put_eq, oA_obj, fldO_some, asB_map, asB_bind, look_cons_eq, look_cons_ne, field_cons_eq, field_cons_ne, look_put_ne, look_put_eq, iteT, iteF, lenV_tup, lenV_lst]
        rw [hbo]
        simp only [bV_some, mV_some, bO_next, bO_ret, fin_next, fin_ret, mO_some, mB_some, mN_some, asB_bool, bB_last, bB_andF, bB_andT, bB_orT, bB_orF, rv_cons_eq, rv_cons_ne, rv_put_eq, rv_put_ne, bL_put_eq, oA_obj, fldO_some, asB_map, asB_bind, look_cons_eq, look_cons_ne, field_cons_eq, field_cons_ne, look_put_ne, look_put_eq, iteT, iteF, lenV_tup, lenV_lst]
      · cases hs) h look_put_eq
  have hi : items (.lst (ns.map .int)) = some (ns.map .int) := rfl
  rw [mV_some, bO_next, rv_put_ne (by decide), rv_cons_eq, bV_some, hi, Option.bind_some, e, bO_next, rv_of hI, mV_some, bO_ret, fin_ret]
noncomputable def nexts (z : Ins) (i : Int) : List Int := match labI z with
  | .int l => if (if endB z then [] else [i + 1]).contains l then (if endB z then [] else [i + 1]) else (if endB z then [] else [i + 1]) ++ [l]
  | _ => if endB z then [] else [i + 1]
theorem bB_and {m : Option (AV × Sto)} {k : Sto → Option (AV × Sto)} {b c : Bool} (h : m = some (.bool b, σ)) (hk : k σ = some (.bool c, σ)) : bB true false m k = some (.bool (b && c), σ) := by
  subst h
  cases b with
  | false => rfl
  | true => exact hk
theorem bB_end {m : Option (AV × Sto)} {k : Sto → Option (AV × Sto)} {b : Bool} (h : m = some (.bool b, σ)) : bB true true m k = some (.bool b, σ) := by subst h; rfl
noncomputable def plB (ρ : Loc) (σ : Sto) : Option Out := bV (bB true false (mV (rv 34 ρ σ) fun v σ => (AV.bool (match v with | .none => false | _ => true), σ)) fun σ => bB true true (bV (rv 34 ρ σ) fun u σ => bL 0 ρ fun l => mN (isinL u l) σ) fun σ => (none : Option (AV × Sto))) fun v σ => (asB v).bind fun t => if t then bO (bV (rv 34 ρ σ) (oAp ρ 0)) fun ρ σ => some (Out.next ρ σ) else some (Out.next ρ σ)
theorem n_places_behind_eq : n_places_behind = fun l σ => (bindAll p_places_behind l).bind fun ρ => fin (bO (mV (bV (rv 10 ρ σ) fun u σ => bV (rv 36 ρ σ) fun v σ => mO (subV σ u v) σ) fun v σ => Out.next (put 21 (.val v) ρ) σ) fun ρ σ => bO (mV (bV (bV (bV (rv 21 ρ σ) fun u σ => bV (some (AV.int 0, σ)) fun v σ => mO (subV σ u v) σ) fun u σ => bV (some (t_ENDS, σ)) fun v σ => mB (isinV u v) σ) fun v σ => (asB v).bind fun t => if t then some (([] : List AV), σ) else bV (bV (rv 36 ρ σ) fun u σ => bV (some (AV.int 1, σ)) fun v σ => mO (binV BO.add u v) σ) fun v σ => mV (some (([] : List AV), σ)) fun l σ => (v :: l, σ)) fun l σ => Out.next (put 0 (.own l) ρ) σ) fun ρ σ => bO (mV (bV (bV (rv 21 ρ σ) fun v σ => mV (some (([] : List AV), σ)) fun l σ => (v :: l, σ)) n_label_of) fun v σ => Out.next (put 34 (.val v) ρ) σ) fun ρ σ => bO (plB ρ σ) fun ρ σ => bO (oFz ρ 0 σ) fun ρ σ => bO (mV (rv 0 ρ σ) fun v σ => Out.ret v σ) fun ρ σ => some (Out.next ρ σ)) := rfl
noncomputable def firstP (z : Ins) (i : Int) : List Int := if endB z then [] else [i + 1]
theorem first_le (z : Ins) (i : Int) : (firstP z i).length ≤ 100 := by
  unfold firstP
  cases endB z
  · exact (of_decide_eq_true rfl : 1 ≤ 100)
  · exact Nat.zero_le _
theorem plB_none {ρ : Loc} (h34 : look 34 ρ = some (.val .none)) : plB ρ σ = some (.next ρ σ) := by
  unfold plB
  rw [rv_of h34]; rfl
theorem plB_int {ρ : Loc} {F : List Int} {l : Int} (h34 : look 34 ρ = some (.val (.int l))) (h0 : look 0 ρ = some (.own (F.map .int))) (hf : F.length ≤ 100) : ∃ ρ', look 0 ρ' = some (.own ((if F.contains l then F else F ++ [l]).map .int)) ∧ plB ρ σ = some (.next ρ' σ) := by
  have e : (bV (bB true false (mV (rv 34 ρ σ) fun v σ => (AV.bool (match v with | .none => false | _ => true), σ)) fun σ => bB true true (bV (rv 34 ρ σ) fun u σ => bL 0 ρ fun l => mN (isinL u l) σ) fun σ => (none : Option (AV × Sto))) fun v σ => (asB v).bind fun t => if t then bO (bV (rv 34 ρ σ) (oAp ρ 0)) fun ρ σ => some (Out.next ρ σ) else some (Out.next ρ σ)) = if F.contains l then some (.next ρ σ) else some (.next (put 0 (.own (F.map .int ++ [.int l])) ρ) σ) := by
    rw [bB_and (σ := σ) (b := true) (c := !F.contains l) (by rw [rv_of h34]; rfl) (bB_end (by rw [rv_of h34, bV_some, bL_of h0, isinL_int]; rfl)), bV_some, rv_of h34, bV_some, oAp_of h0 (fits_of (by rw [List.length_map]; omega)), bO_next]
    cases F.contains l <;> rfl
  cases hc : F.contains l with
  | true => exact ⟨ρ, by rw [if_pos rfl]; exact h0, by unfold plB; exact e.trans (by rw [hc]; rfl)⟩
  | false => exact ⟨put 0 (.own (F.map .int ++ [.int l])) ρ, by rw [if_neg (by decide), List.map_append]; exact look_put_eq (u := .own (F.map .int ++ [.int l])), by unfold plB; exact e.trans (by rw [hc]; rfl)⟩
theorem places_eq {L : List Ins} {i : Int} {z : Ins} (hat : atI (L.map enc) i = some (enc z)) (hw : wf z = true) (hp : plain z = true) : n_places_behind [.lst (L.map enc), .int i] σ = some (.lst ((nexts z i).map .int), σ) := by
  have hl := label_eq (σ := σ) hw hp
  have hf : fits (AV.str (wI z) :: oI z) = true := by
    cases z <;> rfl
  have ha : atI (AV.str (wI z) :: oI z) 0 = some (.str (wI z)) := atI_zero hf
  have hen : isinV (.str (wI z)) t_ENDS = some (endB z) := isin_ends _
  have hlab : labI z = .none ∨ ∃ l, labI z = .int l := by
    cases z <;> first | exact .inl rfl | exact .inr ⟨_, rfl⟩
  have h4 : ∀ ρ, look 34 ρ = some (.val (labI z)) → look 0 ρ = some (.own ((firstP z i).map .int)) → ∃ ρ', look 0 ρ' = some (.own ((nexts z i).map .int)) ∧ plB ρ σ = some (.next ρ' σ) := fun ρ h34 h0 => by
    unfold nexts
    rcases hlab with q | ⟨l, q⟩ <;> rw [q] at h34 ⊢
    · exact ⟨ρ, h0, plB_none h34⟩
    · exact plB_int h34 h0 (first_le z i)
  have r10 : ∀ σ, rv 10 [(10, .val (.lst (L.map enc))), (36, .val (.int i))] σ = some (.lst (L.map enc), σ) := fun _ => rfl
  have r36 : ∀ σ, rv 36 [(10, .val (.lst (L.map enc))), (36, .val (.int i))] σ = some (.int i, σ) := fun _ => rfl
  have b0 : bindAll p_places_behind [.lst (L.map enc), .int i] = some [(10, .val (.lst (L.map enc))), (36, .val (.int i))] := rfl
  rw [n_places_behind_eq]
  dsimp only
  rw [b0, Option.bind_some]
  generalize [(10, LV.val (.lst (L.map enc))), (36, .val (.int i))] = ρ0 at r10 r36
  have r21 : ∀ σ, rv 21 (put 21 (.val (enc z)) ρ0) σ = some (.tup (.str (wI z) :: oI z), σ) := rv_of look_put_eq
  have r36' : ∀ σ, rv 36 (put 21 (.val (enc z)) ρ0) σ = some (.int i, σ) := fun σ => by rw [rv_put_ne (by decide)]; exact r36 σ
  have r21' : ∀ σ, rv 21 (put 0 (.own ((firstP z i).map .int)) (put 21 (.val (enc z)) ρ0)) σ = some (enc z, σ) := rv_of (by rw [look_put_ne (by decide)]; exact look_put_eq)
  obtain ⟨ρ4, h0, e4⟩ := h4 (put 34 (.val (labI z)) (put 0 (.own ((firstP z i).map .int)) (put 21 (.val (enc z)) ρ0))) look_put_eq (by rw [look_put_ne (by decide)]; exact look_put_eq)
  refine (congrArg fin (bO_go σ (put 21 (.val (enc z)) ρ0) ?s1 (bO_go σ (put 0 (.own ((firstP z i).map .int)) (put 21 (.val (enc z)) ρ0)) ?s2 (bO_go σ (put 34 (.val (labI z)) (put 0 (.own ((firstP z i).map .int)) (put 21 (.val (enc z)) ρ0))) ?s3 (bO_go σ ρ4 e4 (bO_go σ _ (oFz_of h0) (bO_rt (a := .lst ((nexts z i).map .int)) ?s6))))))).trans fin_ret
  case s1 => rw [r10, bV_some, r36, bV_some, subV_lst, hat]; rfl
  case s2 =>
    rw [r21, bV_some, bV_some, subV_tup, ha, mO_some, bV_some, bV_some, hen]
    unfold firstP
    cases endB z
    · show mV (bV (bV (rv 36 (put 21 (.val (enc z)) ρ0) σ) fun u σ => bV (some (AV.int 1, σ)) fun v σ => mO (binV BO.add u v) σ) fun v σ => mV (some (([] : List AV), σ)) fun l σ => (v :: l, σ)) (fun l σ => Out.next (put 0 (.own l) (put 21 (.val (enc z)) ρ0)) σ) = _
      rw [r36', bV_some, bV_some, add_int]; rfl
    · rfl
  case s3 => rw [r21', bV_some, mV_some, bV_some, hl]; rfl
  case s6 => rw [rv_of look_put_eq]; rfl
end
end Mine
/-! part NX -/
namespace Mine
open PySem

noncomputable def Nx (I : Loc → Prop) (σ : Sto) (m : Option Out) : Prop := ∃ ρ', I ρ' ∧ m = some (.next ρ' σ)
theorem Nx_bO {I J : Loc → Prop} {σ : Sto} {m : Option Out} {k : Loc → Sto → Option Out} (h : Nx I σ m) (hk : ∀ ρ, I ρ → Nx J σ (k ρ σ)) : Nx J σ (bO m k) := by
  obtain ⟨ρ, hI, e⟩ := h
  rw [e]
  exact hk ρ hI
theorem Nx.mono {I J : Loc → Prop} {σ : Sto} {m : Option Out} (h : Nx I σ m) (f : ∀ ρ, I ρ → J ρ) : Nx J σ m := let ⟨ρ, a, b⟩ := h; ⟨ρ, f ρ a, b⟩
theorem atI_map {fd : List Int} {l x : Int} (h0 : 0 ≤ l) (hx : fd[l.toNat]? = some x) (hf : fd.length ≤ 1000) : atI (fd.map .int) l = some (.int x) := by
  unfold atI
  rw [if_pos (fits_of (by rw [List.length_map]; omega)), if_pos h0, List.getElem?_map, hx]; rfl
theorem setI_map {fd : List Int} {l k x : Int} (h0 : 0 ≤ l) (hx : fd[l.toNat]? = some x) (hf : fd.length ≤ 1000) : setI (fd.map .int) l (.int k) = some ((fd.set l.toNat k).map .int) := by
  unfold setI
  have hlt := (List.getElem?_eq_some_iff.mp hx).1
  have hf' : fits (fd.map AV.int) = true := fits_of (by rw [List.length_map]; omega)
  rw [if_neg (by rw [hf']; simp), if_pos h0, if_pos (by rw [List.length_map]; exact hlt), List.map_set]
noncomputable def inS (after : Int) (s : List Int × List Int) (l : Int) : Option (List Int × List Int) :=
  if 0 ≤ l ∧ s.1.length ≤ 1000 ∧ s.2.length ≤ 1000 then (s.1[l.toNat]?).bind fun x =>
    if (if x = -1 then after else Builtin.bitAnd x after) = x then some s else some (s.1.set l.toNat (if x = -1 then after else Builtin.bitAnd x after), s.2 ++ [l]) else none
noncomputable def stepW (L : List Ins) (fd wt : List Int) : Option (List Int × List Int) := (wt.getLast?).bind fun pl =>
  if 0 ≤ pl ∧ fd.length ≤ 1000 ∧ wt.length ≤ 1000 then (L[pl.toNat]?).bind fun z => (fd[pl.toNat]?).bind fun x => (maskI (regsW z)).bind fun m => foldO (inS (Builtin.bitOr x m)) (fd, wt.dropLast) (nexts z pl) else none
noncomputable def flowN (L : List Ins) : Nat → List Int → List Int → Option (List Int)
  | 0, _, _ => none
  | n + 1, fd, wt => if wt.isEmpty then some fd else (stepW L fd wt).bind fun s => flowN L n s.1 s.2
section
variable {L : List Ins} {σ : Sto}
noncomputable def PW (L : List Ins) (fd wt : List Int) (ρ : Loc) : Prop := look 0 ρ = some (.own (fd.map .int)) ∧ look 1 ρ = some (.own (wt.map .int)) ∧ look 10 ρ = some (.val (.lst (L.map enc)))
theorem PW.put {fd wt : List Int} {ρ : Loc} {k : Nat} {v : LV} (h : PW L fd wt ρ) (hk : k ≠ 0 ∧ k ≠ 1 ∧ k ≠ 10) : PW L fd wt (put k v ρ) :=
  ⟨by rw [look_put_ne hk.1]; exact h.1, by rw [look_put_ne hk.2.1]; exact h.2.1, by rw [look_put_ne hk.2.2]; exact h.2.2⟩
theorem while_bO {cnd : Loc → Sto → Option (Bool × Sto)} {body : Loc → Sto → Option Out} {k : Loc → Sto → Option Out} {X : Option Out} {res : List Int} (hc : ∀ ρ fd wt, PW L fd wt ρ → cnd ρ σ = some (!wt.isEmpty, σ)) (hb : ∀ ρ fd wt s, PW L fd wt ρ → stepW L fd wt = some s → Nx (PW L s.1 s.2) σ (body ρ σ)) :
    ∀ (n : Nat) (fd wt : List Int) (ρ : Loc), flowN L n fd wt = some res → PW L fd wt ρ → (∀ ρ', look 0 ρ' = some (.own (res.map .int)) → k ρ' σ = X) → bO (whileL cnd body n ρ σ) k = X
  | 0, _, _, _, e, _, _ => by cases e
  | n + 1, fd, wt, ρ, e, h, hk => by
    rw [flowN] at e
    rw [whileL, hc ρ fd wt h]
    dsimp only [Option.bind_some]
    cases he : wt.isEmpty with
    | true =>
      rw [he] at e
      cases e
      exact hk ρ h.1
    | false =>
      rw [he, if_neg (by decide)] at e
      obtain ⟨s, e1, e2⟩ := Option.bind_eq_some_iff.mp e
      obtain ⟨ρ', h', e'⟩ := hb ρ fd wt s h e1
      rw [if_pos (by rfl), e']
      exact while_bO hc hb n _ _ ρ' e2 h' hk
theorem ahead_eq {p : Nat} {n t cont rest fr R : AV} {need e : Int} {res : List Int} (hp : σ[p]? = some (mP n t (.int need) rest cont R fr (.lst (L.map enc)))) (he : n_entry_registers [.obj p] σ = some (.int e, σ)) (he2 : 0 ≤ e ∧ e ≤ 60)
    (hg : ∀ z ∈ L, wf z = true ∧ plain z = true) (hn : 0 < L.length ∧ L.length ≤ 1000) (hf : flowN L 400 ((List.replicate L.length (-1 : Int)).set 0 (1 * 2 ^ e.toNat - 1)) [0] = some res) :
    n_written_ahead [.obj p] σ = some (.lst (res.map .int), σ) := by
  have fl : fits (L.map enc) = true := fits_of (by rw [List.length_map]; omega)
  have hrep : oRep (.lst [.int (-1)]) (.int ((L.map enc).length : Int)) σ = some ((List.replicate L.length (-1 : Int)).map .int, σ) := by
    show (if _ then _ else _) = _
    rw [if_pos (by rw [List.length_map]; simp; omega), repL_one, List.length_map, Int.toNat_natCast, List.map_replicate]
  have hshl : binV .shl (.int 1) (.int e) = some (.int (1 * 2 ^ e.toNat)) := by
    show (if (decide (0 ≤ e) && decide (e ≤ 60) && small 1) = true then some (1 * 2 ^ e.toNat) else none : Option Int).map AV.int = _
    rw [if_pos (by simp [he2]; rfl)]; rfl
  have hset : setI ((List.replicate L.length (-1 : Int)).map .int) 0 (.int (1 * 2 ^ e.toNat - 1)) = some (((List.replicate L.length (-1 : Int)).set 0 (1 * 2 ^ e.toNat - 1)).map .int) :=
    setI_map (l := 0) (x := -1) (by decide) (by rw [show ((0 : Int).toNat) = 0 from rfl, List.getElem?_replicate, if_pos hn.1]) (by simp; omega)
  unfold n_written_ahead s_written_ahead
  simp only [p_written_ahead, bindAll, Option.map_some, Option.bind_some]
  simp only [rv_cons_eq, bV_some, mV_some, bO_next, bO_ret, fin_next, fin_ret, mO_some, mB_some, mN_some, asB_bool, bB_last, bB_andF, bB_andT, bB_orT, bB_orF, rv_cons_eq, rv_cons_ne, rv_put_eq, rv_put_ne, bL_put_eq, oA_obj, fldO_some, asB_map, asB_bind, look_cons_eq, look_cons_ne, field_cons_eq, field_cons_ne, look_put_ne, look_put_eq, iteT, iteF, lenV_tup, lenV_lst, hp]
  rw [field_cons_ne (by decide), field_cons_ne (by decide), field_cons_ne (by decide), field_cons_ne (by decide), field_cons_ne (by decide), field_cons_ne (by decide), field_cons_ne (by decide), field_cons_eq]
  simp only [Option.map_some, bV_some, mV_some, bO_next, bO_ret, fin_next, fin_ret, mO_some, mB_some, mN_some, asB_bool, bB_last, bB_andF, bB_andT, bB_orT, bB_orF, rv_cons_eq, rv_cons_ne, rv_put_eq, rv_put_ne, bL_put_eq, oA_obj, fldO_some, asB_map, asB_bind, look_cons_eq, look_cons_ne, field_cons_eq, field_cons_ne, look_put_ne, look_put_eq, iteT, iteF, lenV_tup, lenV_lst, lenV_lst fl]
  rw [hrep, mV_some, bO_next, rv_put_ne (by decide), rv_put_ne (by decide), rv_cons_eq, bV_some, bV_some, he, bV_some, hshl]
  simp only [bV_some, mV_some, bO_next, bO_ret, fin_next, fin_ret, mO_some, mB_some, mN_some, asB_bool, bB_last, bB_andF, bB_andT, bB_orT, bB_orF, rv_cons_eq, rv_cons_ne, rv_put_eq, rv_put_ne, bL_put_eq, oA_obj, fldO_some, asB_map, asB_bind, look_cons_eq, look_cons_ne, field_cons_eq, field_cons_ne, look_put_ne, look_put_eq, iteT, iteF, lenV_tup, lenV_lst, sub_int]
  have hso : oSO (put 0 (.own ((List.replicate L.length (-1 : Int)).map .int)) (put 10 (.val (.lst (L.map enc))) [(18, .val (.obj p))])) 0 (.int (1 * 2 ^ e.toNat - 1)) (.int 0) σ = some (.next (put 0 (.own (((List.replicate L.length (-1 : Int)).set 0 (1 * 2 ^ e.toNat - 1)).map .int)) (put 0 (.own ((List.replicate L.length (-1 : Int)).map .int)) (put 10 (.val (.lst (L.map enc))) [(18, .val (.obj p))]))) σ) := by
    unfold oSO
    rw [look_put_eq]
    dsimp only
    rw [hset]; rfl
  rw [hso, bO_next]
  refine (congrArg fin (while_bO (L := L) (res := res) (X := some (.ret (.lst (res.map .int)) σ)) ?hc ?hb 400 _ [0] _ hf ?hP ?hk)).trans fin_ret
  case hc =>
    intro ρ fd wt h
    have hb1 : ∀ f : List AV → Option (AV × Sto), bL 1 ρ f = f (wt.map .int) := fun f => bL_of h.2.1
    rw [hb1, bV_some, asB_map]
    cases wt <;> rfl
  case hP => exact ⟨by rw [look_put_ne (by decide), look_put_eq], look_put_eq, by rw [look_put_ne (by decide), look_put_ne (by decide), look_put_ne (by decide), look_put_eq]⟩
  case hk =>
    intro ρ' h
    rw [oFz_of h]
    simp only [bV_some, mV_some, bO_next, bO_ret, fin_next, fin_ret, mO_some, mB_some, mN_some, asB_bool, bB_last, bB_andF, bB_andT, bB_orT, bB_orF, rv_cons_eq, rv_cons_ne, rv_put_eq, rv_put_ne, bL_put_eq, oA_obj, fldO_some, asB_map, asB_bind, look_cons_eq, look_cons_ne, field_cons_eq, field_cons_ne, look_put_ne, look_put_eq, iteT, iteF, lenV_tup, lenV_lst]
  case hb =>
    intro ρ fd wt s h hs
    obtain ⟨pl, e1, hs⟩ := Option.bind_eq_some_iff.mp hs
    split at hs
    · rename_i hc
      obtain ⟨z, e2, hs⟩ := Option.bind_eq_some_iff.mp hs
      obtain ⟨x, e3, hs⟩ := Option.bind_eq_some_iff.mp hs
      obtain ⟨mk, e4, hs⟩ := Option.bind_eq_some_iff.mp hs
      have fw : fits (wt.map AV.int) = true := fits_of (by rw [List.length_map]; omega)
      have gz := hg z (List.mem_of_getElem? e2)
      have hat : atI (L.map enc) pl = some (enc z) := by
        unfold atI
        rw [if_pos fl, if_pos hc.1, List.getElem?_map, e2]; rfl
      have hax := atI_map hc.1 e3 hc.2.1
      refine Nx_bO (I := fun ρ => PW L fd wt.dropLast ρ ∧ look 36 ρ = some (.val (.int pl))) ?s1 fun ρ1 h1 => ?_
      case s1 =>
        refine ⟨put 36 (.val (.int pl)) (put 1 (.own (wt.map AV.int).dropLast) ρ), ⟨?_, look_put_eq⟩, ?_⟩
        · refine PW.put ⟨by rw [look_put_ne (by decide)]; exact h.1, by rw [look_put_eq, List.map_dropLast], by rw [look_put_ne (by decide)]; exact h.2.2⟩ (by decide)
        · unfold oPop
          rw [h.2.1]
          dsimp only
          rw [if_pos fw, List.getLast?_map, e1]; rfl
      refine Nx_bO (I := fun ρ => PW L fd wt.dropLast ρ ∧ look 36 ρ = some (.val (.int pl)) ∧ look 58 ρ = some (.val (.int (Builtin.bitOr x mk)))) ?s2 fun ρ2 h2 => ?_
      case s2 =>
        refine ⟨put 58 (.val (.int (Builtin.bitOr x mk))) ρ1, ⟨h1.1.put (by decide), by rw [look_put_ne (by decide)]; exact h1.2, look_put_eq⟩, ?_⟩
        have b0 : ∀ f : List AV → Option (AV × Sto), bL 0 ρ1 f = f (fd.map .int) := fun f => bL_of h1.1.1
        have r36 := rv_of h1.2
        have r10 := rv_of h1.1.2.2
        have hwr := written_eq (σ := σ) gz.1 gz.2
        have hmk := mask_eq (σ := σ) e4
        have hos : oS (fd.map .int) (.int pl) σ = some (.int x, σ) := by
          show (atI _ _).map _ = _
          rw [hax]; rfl
        have hbo : binV .bor (.int x) (.int mk) = some (.int (Builtin.bitOr x mk)) := rfl
        rw [b0]
        simp only [r36, r10, bV_some, mV_some, bO_next, bO_ret, fin_next, fin_ret, mO_some, mB_some, mN_some, asB_bool, bB_last, bB_andF, bB_andT, bB_orT, bB_orF, rv_cons_eq, rv_cons_ne, rv_put_eq, rv_put_ne, bL_put_eq, oA_obj, fldO_some, asB_map, asB_bind, look_cons_eq, look_cons_ne, field_cons_eq, field_cons_ne, look_put_ne, look_put_eq, iteT, iteF, lenV_tup, lenV_lst]
        rw [hos, bV_some, subV_lst, hat]
        simp only [bV_some, mV_some, bO_next, bO_ret, fin_next, fin_ret, mO_some, mB_some, mN_some, asB_bool, bB_last, bB_andF, bB_andT, bB_orT, bB_orF, rv_cons_eq, rv_cons_ne, rv_put_eq, rv_put_ne, bL_put_eq, oA_obj, fldO_some, asB_map, asB_bind, look_cons_eq, look_cons_ne, field_cons_eq, field_cons_ne, look_put_ne, look_put_eq, iteT, iteF, lenV_tup, lenV_lst]
        rw [hwr]
        simp only [bV_some, mV_some, bO_next, bO_ret, fin_next, fin_ret, mO_some, mB_some, mN_some, asB_bool, bB_last, bB_andF, bB_andT, bB_orT, bB_orF, rv_cons_eq, rv_cons_ne, rv_put_eq, rv_put_ne, bL_put_eq, oA_obj, fldO_some, asB_map, asB_bind, look_cons_eq, look_cons_ne, field_cons_eq, field_cons_ne, look_put_ne, look_put_eq, iteT, iteF, lenV_tup, lenV_lst]
        rw [hmk]
        simp only [bV_some, mV_some, bO_next, bO_ret, fin_next, fin_ret, mO_some, mB_some, mN_some, asB_bool, bB_last, bB_andF, bB_andT, bB_orT, bB_orF, rv_cons_eq, rv_cons_ne, rv_put_eq, rv_put_ne, bL_put_eq, oA_obj, fldO_some, asB_map, asB_bind, look_cons_eq, look_cons_ne, field_cons_eq, field_cons_ne, look_put_ne, look_put_eq, iteT, iteF, lenV_tup, lenV_lst]
        rw [hbo]
        simp only [bV_some, mV_some, bO_next, bO_ret, fin_next, fin_ret, mO_some, mB_some, mN_some, asB_bool, bB_last, bB_andF, bB_andT, bB_orT, bB_orF, rv_cons_eq, rv_cons_ne, rv_put_eq, rv_put_ne, bL_put_eq, oA_obj, fldO_some, asB_map, asB_bind, look_cons_eq, look_cons_ne, field_cons_eq, field_cons_ne, look_put_ne, look_put_eq, iteT, iteF, lenV_tup, lenV_lst]
      refine Nx_bO (I := fun ρ => PW L s.1 s.2 ρ) ?s3 fun ρ3 h3 => ⟨ρ3, h3, rfl⟩
      case s3 =>
        have r36 := rv_of h2.2.1
        have r10 := rv_of h2.1.2.2
        have hpb := places_eq (σ := σ) hat gz.1 gz.2
        have hit : items (.lst ((nexts z pl).map .int)) = some ((nexts z pl).map .int) := rfl
        simp only [r36, r10, bV_some, mV_some, bO_next, bO_ret, fin_next, fin_ret, mO_some, mB_some, mN_some, asB_bool, bB_last, bB_andF, bB_andT, bB_orT, bB_orF, rv_cons_eq, rv_cons_ne, rv_put_eq, rv_put_ne, bL_put_eq, oA_obj, fldO_some, asB_map, asB_bind, look_cons_eq, look_cons_ne, field_cons_eq, field_cons_ne, look_put_ne, look_put_eq, iteT, iteF, lenV_tup, lenV_lst]
        rw [hpb, bV_some, hit, Option.bind_some]
        refine Nx.mono (forL_fold (σ := σ) (enc := AV.int) (fun (s : List Int × List Int) ρ => PW L s.1 s.2 ρ ∧ look 58 ρ = some (.val (.int (Builtin.bitOr x mk)))) (inS (Builtin.bitOr x mk)) (s := (fd, wt.dropLast)) (fun l _ a b ρ hI hst => ?_) hs ⟨h2.1, h2.2.2⟩) fun ρ hh => hh.1
        unfold inS at hst
        split at hst
        · rename_i hc2
          obtain ⟨y, ey, hst⟩ := Option.bind_eq_some_iff.mp hst
          have hI1 : PW L a.1 a.2 (put 60 (.val (.int l)) ρ) ∧ look 58 (put 60 (.val (.int l)) ρ) = some (.val (.int (Builtin.bitOr x mk))) := ⟨hI.1.put (by decide), by rw [look_put_ne (by decide)]; exact hI.2⟩
          generalize hρ : put 60 (.val (.int l)) ρ = ρ6 at hI1
          have r60 : ∀ σ, rv 60 ρ6 σ = some (.int l, σ) := rv_of (by rw [← hρ]; exact look_put_eq)
          have r58 := rv_of hI1.2
          have b0 : ∀ f : List AV → Option (AV × Sto), bL 0 ρ6 f = f (a.1.map .int) := fun f => bL_of hI1.1.1
          have hay := atI_map hc2.1 ey hc2.2.1
          have hos : oS (a.1.map .int) (.int l) σ = some (.int y, σ) := by
            show (atI _ _).map _ = _
            rw [hay]; rfl
          generalize hk : (if y = -1 then Builtin.bitOr x mk else Builtin.bitAnd y (Builtin.bitOr x mk)) = k at hst
          have hcq : cmpV .eq (.int y) (.int (-1)) = some (decide (y = -1)) := rfl
          have hba : binV .band (.int y) (.int (Builtin.bitOr x mk)) = some (.int (Builtin.bitAnd y (Builtin.bitOr x mk))) := rfl
          have hcn : cmpV .ne (.int k) (.int y) = some (!decide (k = y)) := rfl
          have first : (mV (bV (bV (bL 0 ρ6 fun l1 => oS l1 (.int l) σ) fun u σ => mB (cmpV CO.eq u (.int (-1))) σ) fun v σ => (asB v).bind fun t => if t then rv 58 ρ6 σ else bV (bL 0 ρ6 fun l1 => oS l1 (.int l) σ) fun u σ => bV (rv 58 ρ6 σ) fun v σ => mO (binV BO.band u v) σ) fun v σ => Out.next (put 59 (.val v) ρ6) σ) = some (.next (put 59 (.val (.int k)) ρ6) σ) := by
            rw [b0, hos, bV_some, hcq, mB_some, bV_some, asB_bind]
            by_cases hy : y = -1
            · rw [if_pos (decide_eq_true hy), r58, mV_some, ← hk, if_pos hy]
            · rw [if_neg (by simpa using hy), b0, hos, bV_some, r58, bV_some, hba, mO_some, mV_some, ← hk, if_neg hy]
          have h59 : PW L a.1 a.2 (put 59 (.val (.int k)) ρ6) ∧ look 58 (put 59 (.val (.int k)) ρ6) = some (.val (.int (Builtin.bitOr x mk))) := ⟨hI1.1.put (by decide), by rw [look_put_ne (by decide)]; exact hI1.2⟩
          have b0' : ∀ f : List AV → Option (AV × Sto), bL 0 (put 59 (.val (.int k)) ρ6) f = f (a.1.map .int) := fun f => bL_of h59.1.1
          have r60' : ∀ σ, rv 60 (put 59 (.val (.int k)) ρ6) σ = some (.int l, σ) := fun σ => by rw [rv_put_ne (by decide)]; exact r60 σ
          have r59 : ∀ σ, rv 59 (put 59 (.val (.int k)) ρ6) σ = some (.int k, σ) := fun σ => rv_put_eq
          split at hst
          · rename_i hky
            cases hst
            refine ⟨put 59 (.val (.int k)) ρ6, h59, ?_⟩
            rw [first, bO_next]
            generalize put 59 (.val (.int k)) ρ6 = ρ9 at *
            rw [r59, bV_some, b0', r60', bV_some, hos, bV_some, hcn, mB_some, bV_some, asB_bind, if_neg (by simpa using hky), bO_next]
          · rename_i hky
            cases hst
            have hset := setI_map (k := k) hc2.1 ey hc2.2.1
            have fa2 : fits (a.2.map AV.int) = true := fits_of (by rw [List.length_map]; omega)
            have hso : oSO (put 59 (.val (.int k)) ρ6) 0 (.int k) (.int l) σ = some (.next (put 0 (.own ((a.1.set l.toNat k).map .int)) (put 59 (.val (.int k)) ρ6)) σ) := by
              unfold oSO
              rw [h59.1.1]
              dsimp only
              rw [hset]; rfl
            refine ⟨put 1 (.own (a.2.map .int ++ [.int l])) (put 0 (.own ((a.1.set l.toNat k).map .int)) (put 59 (.val (.int k)) ρ6)), ⟨⟨by rw [look_put_ne (by decide), look_put_eq], by rw [look_put_eq]; simp, by rw [look_put_ne (by decide), look_put_ne (by decide)]; exact h59.1.2.2⟩, by rw [look_put_ne (by decide), look_put_ne (by decide)]; exact h59.2⟩, ?_⟩
            rw [first, bO_next]
            have h1' : look 1 (put 0 (.own ((a.1.set l.toNat k).map .int)) (put 59 (.val (.int k)) ρ6)) = some (.own (a.2.map .int)) := by rw [look_put_ne (by decide)]; exact h59.1.2.1
            have r60'' : ∀ σ, rv 60 (put 0 (.own ((a.1.set l.toNat k).map .int)) (put 59 (.val (.int k)) ρ6)) σ = some (.int l, σ) := fun σ => by rw [rv_put_ne (by decide)]; exact r60' σ
            rw [r59, bV_some, b0', r60', bV_some, hos, bV_some, hcn, mB_some, bV_some, asB_bind, if_pos (by simpa using hky), r59, bV_some, r60', bV_some, hso, bO_next, r60'', bV_some, oAp_of h1' fa2, bO_next, bO_next]
        · cases hst
    · cases hs
end
end Mine
/-! part NY -/
namespace Mine
open PySem

noncomputable def b2i (b : Bool) : Int := if b then 1 else 0
noncomputable def entryI (nd : Int) (rb cb : Bool) : Int := nd + b2i rb + b2i (!cb)
section
variable {σ : Sto} {u p : Nat} {t fr R : AV} {nd : Int} {rb cb : Bool} {n ins cs gs : AV}
theorem entry_eq (hp : σ[p]? = some (mP n t (.int nd) (.bool rb) (.bool cb) R fr ins)) : n_entry_registers [.obj p] σ = some (.int (entryI nd rb cb), σ) := by
  unfold n_entry_registers s_entry_registers
  have h : ∀ b : Bool, toIntV (.bool b) = some (.int (b2i b)) := fun _ => rfl
  simp [p_entry_registers, bindAll, hp, h, add_int, entryI, bV_some, mV_some, bO_next, bO_ret, fin_next, fin_ret, mO_some, mB_some, mN_some, asB_bool, bB_last, bB_andF, bB_andT, bB_orT, bB_orF, rv_cons_eq, rv_cons_ne, rv_put_eq, rv_put_ne, bL_put_eq, oA_obj, fldO_some, asB_map, asB_bind, look_cons_eq, look_cons_ne, field_cons_eq, field_cons_ne, look_put_ne, look_put_eq, iteT, iteF, lenV_tup, lenV_lst, bL_put_ne]
noncomputable def headV (nb place nd R f : Int) (rb cb : Bool) (len : Nat) : AV :=
  if nb ≠ place then .str 3 else if ¬ (0 ≤ nd ∧ 0 ≤ R ∧ 0 ≤ f) then .str 66 else if R < entryI nd rb cb then .str 8 else if len = 0 then .str 67 else .none
theorem guard {m : Option (AV × Sto)} {K : Loc → Sto → Option Out} {ρ : Loc} {w : Nat} {b : Bool} {Z : Option Out} (h : m = some (.bool b, σ)) (hk : K ρ σ = Z) : bO (bV m fun v σ => (asB v).bind fun t => if t = true then bO (mV (some (AV.str w, σ)) fun v σ => Out.ret v σ) fun ρ σ => some (Out.next ρ σ) else some (Out.next ρ σ)) K = if b = true then some (.ret (.str w) σ) else Z := by
  subst h; subst hk
  cases b <;> rfl
theorem fin_if {b : Bool} {w : Nat} {Z : Option Out} {V : AV} (h : fin Z = some (V, σ)) : fin (if b = true then some (.ret (.str w) σ) else Z) = some (if b = true then .str w else V, σ) := by
  cases b
  · exact h
  · rfl
theorem if_dec {p : Prop} [Decidable p] {b : Bool} (h : b = true ↔ p) {x y : AV} : (if b = true then x else y) = if p then x else y := by
  by_cases q : p
  · rw [if_pos (h.mpr q), if_pos q]
  · rw [if_neg (fun z => q (h.mp z)), if_neg q]
theorem head_eq {nb place R f : Int} {il procs : List AV} {st : AV} (hu : σ[u]? = some (mU (.lst procs) cs gs st)) (hpl : atI procs place = some (.obj p)) (hp : σ[p]? = some (mP (.int nb) t (.int nd) (.bool rb) (.bool cb) (.int R) (.int f) (.lst il))) (hf : fits il = true) :
    n_head_word [.obj u, .int place] σ = some (headV nb place nd R f rb cb il.length, σ) := by
  have he := entry_eq hp
  have l1 := lenV_lst hf
  have hc : ∀ ρ : Loc, oC 66 ρ (fun (_ : Loc) (σ : Sto) => some (true, σ)) (fun ρ σ => bV (bV (rv 66 ρ σ) fun v σ => some ([v], σ)) n_is_count) (.tup [.int nd, .int R, .int f]) σ = some (([nd, R, f]).map fun v => AV.bool (decide (0 ≤ v)), σ) := fun ρ =>
    oC_mapE (enc := AV.int) rfl (by simp) (fun _ _ => rfl) fun v _ => by simp [is_count_int, bV_some, mV_some, bO_next, bO_ret, fin_next, fin_ret, mO_some, mB_some, mN_some, asB_bool, bB_last, bB_andF, bB_andT, bB_orT, bB_orF, rv_cons_eq, rv_cons_ne, rv_put_eq, rv_put_ne, bL_put_eq, oA_obj, fldO_some, asB_map, asB_bind, look_cons_eq, look_cons_ne, field_cons_eq, field_cons_ne, look_put_ne, look_put_eq, iteT, iteF, lenV_tup, lenV_lst, bL_put_ne]
  have ha := allV_map (fun v : Int => decide (0 ≤ v)) [nd, R, f]
  simp only [List.map_cons, List.map_nil] at hc ha
  unfold n_head_word s_head_word
  have g : ∀ {j : Nat} {v : AV} (ρ : Loc), look 18 ρ = some (.val (.obj p)) → fldO j (some (mP (.int nb) t (.int nd) (.bool rb) (.bool cb) (.int R) (.int f) (.lst il))) σ = some (v, σ) → bV (rv 18 ρ σ) (oA j) = some (v, σ) := fun ρ h e => fld_eq h hp e
  have h0 : look 45 [(45, LV.val (.obj u)), (36, LV.val (.int place))] = some (.val (.obj u)) := rfl
  have r36 : ∀ σ, rv 36 [(45, LV.val (.obj u)), (36, LV.val (.int place))] σ = some (.int place, σ) := fun _ => rfl
  generalize hL0 : [(45, LV.val (.obj u)), (36, LV.val (.int place))] = ρ0 at h0 r36
  have b0 : bindAll p_head_word [.obj u, .int place] = some ρ0 := by rw [← hL0]; rfl
  rw [b0, Option.bind_some]
  have r36' : ∀ σ, rv 36 (put 65 (.val (.tup [.int nd, .int R, .int f])) (put 18 (.val (.obj p)) ρ0)) σ = some (.int place, σ) := fun σ => by rw [rv_put_ne (by decide), rv_put_ne (by decide)]; exact r36 σ
  have l18 : look 18 (put 65 (.val (.tup [.int nd, .int R, .int f])) (put 18 (.val (.obj p)) ρ0)) = some (.val (.obj p)) := by rw [look_put_ne (by decide)]; exact look_put_eq
  have r65 : ∀ σ, rv 65 (put 65 (.val (.tup [.int nd, .int R, .int f])) (put 18 (.val (.obj p)) ρ0)) σ = some (.tup [.int nd, .int R, .int f], σ) := rv_of look_put_eq
  refine (congrArg fin (bO_go σ (put 18 (.val (.obj p)) ρ0) ?s1 (bO_go σ (put 65 (.val (.tup [.int nd, .int R, .int f])) (put 18 (.val (.obj p)) ρ0)) ?s2
    (guard (b := !decide (nb = place)) ?g1 (guard (b := !([nd, R, f].all fun v => decide (0 ≤ v))) ?g2 (guard (b := decide (R < entryI nd rb cb)) ?g3 (guard (b := decide ((il.length : Int) = 0)) ?g4 (Z := some (.ret .none σ)) ?z))))))).trans ((fin_if (fin_if (fin_if (fin_if fin_ret)))).trans ?_)
  case s1 => rw [fld_eq h0 hu (v := .lst procs) rfl, bV_some, r36, bV_some, subV_lst, hpl]; rfl
  case s2 => rw [g (j := 5) (v := .int nd) _ look_put_eq rfl, bV_some, g (j := 8) (v := .int R) _ look_put_eq rfl, bV_some, g (j := 9) (v := .int f) _ look_put_eq rfl, bV_some]; rfl
  case g1 => rw [g (j := 3) (v := .int nb) _ l18 rfl, bV_some, r36', bV_some]; rfl
  case g2 =>
    generalize (put 65 (.val (.tup [.int nd, .int R, .int f])) (put 18 (.val (.obj p)) ρ0)) = ρ2 at r65
    have hc' := hc ρ2
    rw [r65, bV_some]
    refine (congrArg (fun m => bV (bV (mV m fun l σ => (AV.lst l, σ)) fun v σ => mO (allV v) σ) fun v σ => Option.map (fun b => (AV.bool (!b), σ)) (asB v)) hc').trans ?_
    rw [mV_some, bV_some, ha]; rfl
  case g3 => rw [g (j := 8) (v := .int R) _ l18 rfl, bV_some, rv_of l18, bV_some, mV_some, bV_some, he]; rfl
  case g4 => rw [g (j := 10) (v := .lst il) _ l18 rfl, bV_some, l1]; rfl
  case z => rfl
  · unfold headV
    congr 2
    rw [if_dec (p := nb ≠ place) (by simp), if_dec (p := ¬ (0 ≤ nd ∧ 0 ≤ R ∧ 0 ≤ f)) (by rw [Bool.not_eq_true', ← Bool.not_eq_true, List.all_cons, List.all_cons, List.all_cons, List.all_nil, Bool.and_true, Bool.and_eq_true, Bool.and_eq_true, decide_eq_true_eq, decide_eq_true_eq, decide_eq_true_eq]), if_dec (p := R < entryI nd rb cb) (by simp), if_dec (p := il.length = 0) (by rw [decide_eq_true_eq]; omega)]
end
noncomputable def unreadQ (res : List Int) (x : Nat × Ins) : Option AV := match res[x.1]?, maskI (regsR x.2) with
  | some y, some m => if y = -1 then none else if Builtin.bitAnd m y = m then none else some (.int x.1)
  | _, _ => none
noncomputable def orNone : Option AV → AV
  | some a => a
  | none => .none
section
variable {σ : Sto} {p : Nat} {L : List Ins}
theorem unread_eq {n t need rest cont R fr : AV} {res : List Int} (hp : σ[p]? = some (mP n t need rest cont R fr (.lst (L.map enc)))) (ha : n_written_ahead [.obj p] σ = some (.lst (res.map .int), σ)) (hg : ∀ z ∈ L, wf z = true ∧ plain z = true) (hn : L.length ≤ 1000) (hr : res.length ≤ 1000)
    (hq : ∀ x ∈ idx 0 L, (res[x.1]?).isSome = true ∧ (maskI (regsR x.2)).isSome = true) : n_unread_place [.obj p] σ = some (orNone ((idx 0 L).findSome? (unreadQ res)), σ) := by
  have f1 : fits (L.map enc) = true := fits_of (by rw [List.length_map]; omega)
  unfold n_unread_place s_unread_place
  simp only [p_unread_place, bindAll, Option.map_some, Option.bind_some]
  simp only [rv_cons_eq, bV_some, mV_some, bO_next, bO_ret, fin_next, fin_ret, mO_some, mB_some, mN_some, asB_bool, bB_last, bB_andF, bB_andT, bB_orT, bB_orF, rv_cons_eq, rv_cons_ne, rv_put_eq, rv_put_ne, bL_put_eq, oA_obj, fldO_some, asB_map, asB_bind, look_cons_eq, look_cons_ne, field_cons_eq, field_cons_ne, look_put_ne, look_put_eq, iteT, iteF, lenV_tup, lenV_lst, bL_put_ne]
  rw [ha]
  simp only [bV_some, mV_some, bO_next, bO_ret, fin_next, fin_ret, mO_some, mB_some, mN_some, asB_bool, bB_last, bB_andF, bB_andT, bB_orT, bB_orF, rv_cons_eq, rv_cons_ne, rv_put_eq, rv_put_ne, bL_put_eq, oA_obj, fldO_some, asB_map, asB_bind, look_cons_eq, look_cons_ne, field_cons_eq, field_cons_ne, look_put_ne, look_put_eq, iteT, iteF, lenV_tup, lenV_lst, bL_put_ne]
  rw [rv_put_ne (by decide), rv_cons_eq, bV_some, oA_obj, hp, fldO_some]
  rw [field_cons_ne (by decide), field_cons_ne (by decide), field_cons_ne (by decide), field_cons_ne (by decide), field_cons_ne (by decide), field_cons_ne (by decide), field_cons_ne (by decide), field_cons_eq, Option.map_some, bV_some]
  generalize hV : orNone ((idx 0 L).findSome? (unreadQ res)) = V
  refine (congrArg fin (bO_find (σ := σ) (I := fun ρ => look 62 ρ = some (.val (.lst (res.map .int)))) (r := (idx 0 L).findSome? (unreadQ res)) (X := some (.ret V σ)) ?h ?hk)).trans fin_ret
  case h =>
    show Found _ _ (if fits _ then _ else _) _
    rw [if_pos f1, enumL_enc]
    refine forL_find (enc := encE enc) _ (unreadQ res) (fun x hx ρ hI => ?_) look_put_eq
    have hm : x.2 ∈ L := by
      have : ∀ (L : List Ins) (i : Nat) (x : Nat × Ins), x ∈ idx i L → x.2 ∈ L := by
        intro L
        induction L with
        | nil => intro i x h; cases h
        | cons a r ih =>
          intro i x h
          rcases List.mem_cons.mp h with rfl | h
          · exact List.mem_cons_self
          · exact List.mem_cons_of_mem _ (ih _ _ h)
      exact this L 0 x hx
    obtain ⟨q1, q2⟩ := hq x hx
    obtain ⟨y, ey⟩ := Option.isSome_iff_exists.mp q1
    obtain ⟨m, em⟩ := Option.isSome_iff_exists.mp q2
    have gz := hg _ hm
    have hrd := read_eq (σ := σ) gz.1 gz.2
    have hmk := mask_eq (σ := σ) em
    have hay : atI (res.map .int) ((x.1 : Nat) : Int) = some (.int y) := atI_map (by omega) (by rw [Int.toNat_natCast]; exact ey) hr
    have hI2 : look 62 (put 21 (.val (enc x.2)) (put 36 (.val (.int x.1)) ρ)) = some (.val (.lst (res.map .int))) := by rw [look_put_ne (by decide), look_put_ne (by decide)]; exact hI
    have r62 := rv_of hI2
    have r62' := rv_of hI
    have hand : binV .band (.int m) (.int y) = some (.int (Builtin.bitAnd m y)) := rfl
    have hQ : unreadQ res x = if y = -1 then none else if Builtin.bitAnd m y = m then none else some (.int x.1) := by unfold unreadQ; rw [ey, em]
    rw [hQ]
    by_cases h1 : y = -1
    · rw [if_pos h1]
      refine ⟨_, hI2, ?_⟩
      simp [encE, putAll, r62', subV_lst, hay, cmpV, eqS, h1, bV_some, mV_some, bO_next, bO_ret, fin_next, fin_ret, mO_some, mB_some, mN_some, asB_bool, bB_last, bB_andF, bB_andT, bB_orT, bB_orF, rv_cons_eq, rv_cons_ne, rv_put_eq, rv_put_ne, bL_put_eq, oA_obj, fldO_some, asB_map, asB_bind, look_cons_eq, look_cons_ne, field_cons_eq, field_cons_ne, look_put_ne, look_put_eq, iteT, iteF, lenV_tup, lenV_lst, bL_put_ne]
    · rw [if_neg h1]
      have hI3 : look 62 (put 63 (.val (.int m)) (put 21 (.val (enc x.2)) (put 36 (.val (.int x.1)) ρ))) = some (.val (.lst (res.map .int))) := by rw [look_put_ne (by decide)]; exact hI2
      by_cases h2 : Builtin.bitAnd m y = m
      · rw [if_pos h2]
        refine ⟨_, hI3, ?_⟩
        simp [encE, putAll, r62', subV_lst, hay, hrd, hmk, hand, cmpV, eqS, h1, h2, bV_some, mV_some, bO_next, bO_ret, fin_next, fin_ret, mO_some, mB_some, mN_some, asB_bool, bB_last, bB_andF, bB_andT, bB_orT, bB_orF, rv_cons_eq, rv_cons_ne, rv_put_eq, rv_put_ne, bL_put_eq, oA_obj, fldO_some, asB_map, asB_bind, look_cons_eq, look_cons_ne, field_cons_eq, field_cons_ne, look_put_ne, look_put_eq, iteT, iteF, lenV_tup, lenV_lst, bL_put_ne]
      · rw [if_neg h2]
        show _ = _
        simp [encE, putAll, r62', subV_lst, hay, hrd, hmk, hand, cmpV, eqS, h1, h2, bV_some, mV_some, bO_next, bO_ret, fin_next, fin_ret, mO_some, mB_some, mN_some, asB_bool, bB_last, bB_andF, bB_andT, bB_orT, bB_orF, rv_cons_eq, rv_cons_ne, rv_put_eq, rv_put_ne, bL_put_eq, oA_obj, fldO_some, asB_map, asB_bind, look_cons_eq, look_cons_ne, field_cons_eq, field_cons_ne, look_put_ne, look_put_eq, iteT, iteF, lenV_tup, lenV_lst, bL_put_ne]
  case hk =>
    cases hf : (idx 0 L).findSome? (unreadQ res) with
    | some a => rw [hf] at hV; subst hV; rfl
    | none =>
      rw [hf] at hV
      subst hV
      intro ρ hI
      simp [orNone, bV_some, mV_some, bO_next, bO_ret, fin_next, fin_ret, mO_some, mB_some, mN_some, asB_bool, bB_last, bB_andF, bB_andT, bB_orT, bB_orF, rv_cons_eq, rv_cons_ne, rv_put_eq, rv_put_ne, bL_put_eq, oA_obj, fldO_some, asB_map, asB_bind, look_cons_eq, look_cons_ne, field_cons_eq, field_cons_ne, look_put_ne, look_put_eq, iteT, iteF, lenV_tup, lenV_lst, bL_put_ne]
end
end Mine
/-! part NZ -/
namespace Mine
open PySem

structure Pr where
  (nb need R fr : Int)
  (rest cont : Bool)
  (t : AV)
  (L : List Ins)
noncomputable def prO (P : Pr) : AO := mP (.int P.nb) P.t (.int P.need) (.bool P.rest) (.bool P.cont) (.int P.R) (.int P.fr) (.lst (P.L.map enc))
noncomputable def flowR (P : Pr) : Option (List Int) := flowN P.L 400 ((List.replicate P.L.length (-1 : Int)).set 0 (1 * 2 ^ (entryI P.need P.rest P.cont).toNat - 1)) [0]
noncomputable def flowOk (P : Pr) : Bool := decide (0 ≤ entryI P.need P.rest P.cont) && decide (entryI P.need P.rest P.cont ≤ 60) && P.L.all (fun z => wf z && plain z) && decide (0 < P.L.length) && match flowR P with
  | none => false
  | some res => decide (res.length ≤ 1000) && (idx 0 P.L).all fun x => (res[x.1]?).isSome && (maskI (regsR x.2)).isSome
noncomputable def urV (P : Pr) : AV := match flowR P with
  | none => .none
  | some res => match (idx 0 P.L).findSome? (unreadQ res) with
    | some (.int i) => .tup [.int i, .str 73]
    | _ => .none
noncomputable def peV (c : Cx) (place : Int) (P : Pr) : AV :=
  if isNoneV (headV P.nb place P.need P.R P.fr P.rest P.cont P.L.length) then
    match (idx 0 P.L).findSome? (wordQ c) with
    | some a => a
    | none => match P.L.getLast? with
      | some z => if endB z then urV P else .tup [.int ((P.L.length : Int) - 1), .str 72]
      | none => .none
  else .tup [.int (-1), headV P.nb place P.need P.R P.fr P.rest P.cont P.L.length]
noncomputable def peOk (c : Cx) (place : Int) (P : Pr) : Bool := !isNoneV (headV P.nb place P.need P.R P.fr P.rest P.cont P.L.length) ||
  (P.L.all wf && ((idx 0 P.L).findSome? (wordQ c)).isSome || P.L.all wf && match P.L.getLast? with
    | none => false
    | some z => !endB z || flowOk P)
theorem unreadQ_int {res : List Int} : ∀ {L : List (Nat × Ins)} {a : AV}, L.findSome? (unreadQ res) = some a → ∃ i, a = .int i
  | [], _, h => by cases h
  | x :: r, a, h => by
    rw [List.findSome?_cons] at h
    cases e : unreadQ res x with
    | none => rw [e] at h; exact unreadQ_int h
    | some b =>
      rw [e] at h
      cases h
      unfold unreadQ at e
      split at e
      · split at e
        · cases e
        · split at e
          · cases e
          · cases e; exact ⟨_, rfl⟩
      · cases e
section
variable {σ : Sto} {u p : Nat} {c : Cx} {place : Int} {P : Pr} {procs : List AV} {cs gs st : AV}
theorem pe_eq (C : CtxOk c σ u p) (hu : σ[u]? = some (mU (.lst procs) cs gs st)) (hpl : atI procs place = some (.obj p)) (hp : σ[p]? = some (prO P)) (hR : c.R = P.R) (hl : P.L.length ≤ 1000) (ok : peOk c place P = true) :
    n_procedure_error [.obj u, .int place, .int c.pr] σ = some (peV c place P, σ) := by
  have f1 : fits (P.L.map enc) = true := fits_of (by rw [List.length_map]; omega)
  have hh := head_eq hu hpl hp f1
  rw [List.length_map] at hh
  unfold peV
  unfold peOk at ok
  cases hn : isNoneV (headV P.nb place P.need P.R P.fr P.rest P.cont P.L.length) with
  | false => rw [if_neg (by decide)]; exact pe_head hh hn
  | true =>
    rw [hn] at ok
    rw [if_pos rfl]
    have hz : headV P.nb place P.need P.R P.fr P.rest P.cont P.L.length = .none := by
      generalize headV P.nb place P.need P.R P.fr P.rest P.cont P.L.length = h at hn
      cases h <;> first | rfl | cases hn
    rw [hz] at hh
    have hp' : σ[p]? = some (mP (.int P.nb) P.t (.int P.need) (.bool P.rest) (.bool P.cont) (.int c.R) (.int P.fr) (.lst (P.L.map enc))) := by rw [hR]; exact hp
    simp only [Bool.not_true, Bool.false_or, Bool.or_eq_true, Bool.and_eq_true] at ok
    have hwf : P.L.all wf = true := by rcases ok with ok | ok <;> exact ok.1
    refine pe_gen C hu hpl hp' hh (fun i hi => List.all_eq_true.mp hwf i hi) hl ?_
    cases hq : (idx 0 P.L).findSome? (wordQ c) with
    | some a => rfl
    | none =>
      have ok2 : (match P.L.getLast? with
        | none => false
        | some z => !endB z || flowOk P) = true := by
        rcases ok with ok | ok
        · rw [hq] at ok; cases ok.2
        · exact ok.2
      cases hgl : P.L.getLast? with
      | none => rw [hgl] at ok2; cases ok2
      | some z =>
        rw [hgl] at ok2
        have hL := List.getLast?_eq_some_iff.mp hgl
        obtain ⟨L0, hL⟩ := hL
        refine ⟨L0, z, hL, ?_⟩
        cases hb : endB z with
        | false =>
          rw [if_neg (by decide)]
          show (if endB z = true then urV P else _) = _
          rw [hb, if_neg (by decide)]
        | true =>
          simp only [hb, Bool.not_true, Bool.false_or] at ok2
          simp only [flowOk, Bool.and_eq_true, decide_eq_true_eq] at ok2
          obtain ⟨⟨⟨⟨e1, e2⟩, e3⟩, e4⟩, e5⟩ := ok2
          cases hf : flowR P with
          | none => rw [hf] at e5; cases e5
          | some res =>
            rw [hf] at e5
            simp only [Bool.and_eq_true, decide_eq_true_eq, List.all_eq_true] at e5
            have hg : ∀ z ∈ P.L, wf z = true ∧ plain z = true := fun z hz => by have := List.all_eq_true.mp e3 z hz; rwa [Bool.and_eq_true] at this
            have ha := ahead_eq (σ := σ) (L := P.L) hp (entry_eq hp) ⟨e1, e2⟩ hg ⟨e4, hl⟩ hf
            have hur := unread_eq hp ha hg hl e5.1 e5.2
            rw [if_pos rfl]
            refine ⟨_, hur, ?_⟩
            show (_ ∧ (if endB z = true then urV P else _) = _) ∨ ∃ i, _ ∧ (if endB z = true then urV P else _) = _
            rw [hb, if_pos rfl]
            have hu2 : urV P = match (idx 0 P.L).findSome? (unreadQ res) with
              | some (.int i) => .tup [.int i, .str 73]
              | _ => .none := by unfold urV; rw [hf]
            rw [hu2]
            cases hx : (idx 0 P.L).findSome? (unreadQ res) with
            | none => exact .inl ⟨rfl, rfl⟩
            | some a =>
              obtain ⟨i, rfl⟩ := unreadQ_int hx
              exact .inr ⟨i, rfl, rfl⟩
end
/-! the unit -/
noncomputable def uO (a b d : Nat) (s : Int) : AO := mU (.lst [.obj a, .obj b, .obj d]) (.lst [.int 7, .int 8]) (.lst [.int 3, .int 4]) (.int s)
section
variable {σ : Sto} {u a b d : Nat} {s : Int} {P0 P1 P2 : Pr}
theorem start_out (hu : σ[u]? = some (uO a b d s)) (hs : inR 3 s = false) : n_start_word [.obj u] σ = some (.str 16, σ) := by
  have lp : fits [AV.obj a, .obj b, .obj d] = true := rfl
  unfold n_start_word s_start_word
  simp [p_start_word, bindAll, hu, uO, lp, below_inR, hs, bV_some, mV_some, bO_next, bO_ret, fin_next, fin_ret, mO_some, mB_some, mN_some, asB_bool, bB_last, bB_andF, bB_andT, bB_orT, bB_orF, rv_cons_eq, rv_cons_ne, rv_put_eq, rv_put_ne, bL_put_eq, oA_obj, fldO_some, asB_map, asB_bind, look_cons_eq, look_cons_ne, field_cons_eq, field_cons_ne, look_put_ne, look_put_eq, iteT, iteF, lenV_tup, lenV_lst, bL_put_ne]
theorem start_in {q : Nat} {P : Pr} (hu : σ[u]? = some (uO a b d s)) (hs : inR 3 s = true) (hq : atI [.obj a, .obj b, .obj d] s = some (.obj q)) (hp : σ[q]? = some (prO P)) : n_start_word [.obj u] σ = some (if P.need = 0 ∧ P.rest = false ∧ P.cont = false ∧ P.fr = 0 then .none else .str 16, σ) := by
  have lp : fits [AV.obj a, .obj b, .obj d] = true := rfl
  have f12 : fldO 12 (some (uO a b d s)) σ = some (.lst [.obj a, .obj b, .obj d], σ) := rfl
  have f16 : fldO 16 (some (uO a b d s)) σ = some (.int s, σ) := rfl
  have h45 : look 45 [(45, LV.val (AV.obj u))] = some (.val (.obj u)) := rfl
  have h16 : look 16 (put 16 (.val (.obj q)) [(45, .val (.obj u))]) = some (.val (.obj q)) := rfl
  have e12 := fld_eq (σ := σ) h45 hu f12
  have e16 := fld_eq (σ := σ) h45 hu f16
  have he : (if P.need = 0 ∧ P.rest = false ∧ P.cont = false ∧ P.fr = 0 then AV.none else .str 16) = (if (decide (P.need = 0) && (!P.rest && (!P.cont && decide (P.fr = 0)))) = true then AV.none else .str 16) := by
    simp only [Bool.and_eq_true, decide_eq_true_eq, Bool.not_eq_true']
  rw [he]
  generalize hc : (decide (P.need = 0) && (!P.rest && (!P.cont && decide (P.fr = 0)))) = c
  unfold n_start_word s_start_word
  refine (congrArg fin (bO_go σ [(45, .val (.obj u))] ?_ (bO_go σ (put 16 (.val (.obj q)) [(45, .val (.obj u))]) ?_ (bO_go σ (put 75 (.val (.bool c)) (put 16 (.val (.obj q)) [(45, .val (.obj u))])) ?_ ?_)))).trans (fin_ret (σ := σ))
  · simp only [e16, e12, lp, below_inR, hs, bV_some, mV_some, mO_some, mN_some, lenV_lst, asB_bool, Option.bind_some, List.length_cons, List.length_nil]
    rw [show inR ((0 + 1 + 1 + 1 : Nat) : Int) s = true from hs]; rfl
  · rw [e12, bV_some, e16, bV_some, subV_lst, hq]; rfl
  · have g : ∀ {j : Nat} {v : AV}, fldO j (some (prO P)) σ = some (v, σ) → bV (rv 16 (put 16 (.val (.obj q)) [(45, .val (.obj u))]) σ) (oA j) = some (v, σ) := fun h => fld_eq h16 hp h
    refine (congrArg (fun m => mV m _) (bB_and (σ := σ) (b := decide (P.need = 0)) (c := (!P.rest && (!P.cont && decide (P.fr = 0)))) ?_ (bB_and (σ := σ) (b := !P.rest) (c := (!P.cont && decide (P.fr = 0))) ?_ (bB_and (σ := σ) (b := !P.cont) (c := decide (P.fr = 0)) ?_ (bB_end (σ := σ) ?_))))).trans ?_
    · rw [g (j := 5) (v := .int P.need) rfl]; rfl
    · rw [g (j := 6) (v := .bool P.rest) rfl]; rfl
    · rw [g (j := 7) (v := .bool P.cont) rfl]; rfl
    · rw [g (j := 9) (v := .int P.fr) rfl]; rfl
    · rw [hc]; rfl
  · cases c <;> rfl
theorem ue_start {w : Nat} {pr : AV} (hs : n_start_word [.obj u] σ = some (.str w, σ)) : n_unit_error [.obj u, pr] σ = some (.tup [.int (-1), .int (-1), .str w], σ) := by
  unfold n_unit_error s_unit_error
  simp [p_unit_error, bindAll, hs, bV_some, mV_some, bO_next, bO_ret, fin_next, fin_ret, mO_some, mB_some, mN_some, asB_bool, bB_last, bB_andF, bB_andT, bB_orT, bB_orF, rv_cons_eq, rv_cons_ne, rv_put_eq, rv_put_ne, bL_put_eq, oA_obj, fldO_some, asB_map, asB_bind, look_cons_eq, look_cons_ne, field_cons_eq, field_cons_ne, look_put_ne, look_put_eq, iteT, iteF, lenV_tup, lenV_lst, bL_put_ne]
noncomputable def ueV (r0 r1 r2 : AV) : AV := match r0 with
  | .tup [.int i, .str w] => .tup [.int 0, .int i, .str w]
  | _ => match r1 with
    | .tup [.int i, .str w] => .tup [.int 1, .int i, .str w]
    | _ => match r2 with
      | .tup [.int i, .str w] => .tup [.int 2, .int i, .str w]
      | _ => .none
noncomputable def noneOr (r : AV) : Prop := r = .none ∨ ∃ i w, r = .tup [.int i, .str w]
noncomputable def ueB (ρ : Loc) (σ : Sto) : Option Out := bO (mV (bV (bV (rv 45 ρ σ) fun v σ => mV (bV (rv 36 ρ σ) fun v σ => mV (bV (rv 52 ρ σ) fun v σ => mV (some (([] : List AV), σ)) fun l σ => (v :: l, σ)) fun l σ => (v :: l, σ)) fun l σ => (v :: l, σ)) n_procedure_error) fun v σ => Out.next (put 0 (.val v) ρ) σ) fun ρ σ => bO (bV (mV (rv 0 ρ σ) fun v σ => (AV.bool (match v with | .none => false | _ => true), σ)) fun v σ => (asB v).bind fun t => if t then bO (mV (mV (bV (rv 36 ρ σ) fun v σ => mV (bV (bV (rv 0 ρ σ) fun u σ => bV (some (AV.int 0, σ)) fun v σ => mO (subV σ u v) σ) fun v σ => mV (bV (bV (rv 0 ρ σ) fun u σ => bV (some (AV.int 1, σ)) fun v σ => mO (subV σ u v) σ) fun v σ => mV (some (([] : List AV), σ)) fun l σ => (v :: l, σ)) fun l σ => (v :: l, σ)) fun l σ => (v :: l, σ)) fun l σ => (AV.tup l, σ)) fun v σ => Out.ret v σ) fun ρ σ => some (Out.next ρ σ) else some (Out.next ρ σ)) fun ρ σ => some (Out.next ρ σ)
theorem n_unit_error_eq : n_unit_error = fun l σ => (bindAll p_unit_error l).bind fun ρ => fin (bO (mV (bV (bV (rv 45 ρ σ) fun v σ => mV (some (([] : List AV), σ)) fun l σ => (v :: l, σ)) n_start_word) fun v σ => Out.next (put 69 (.val v) ρ) σ) fun ρ σ => bO (bV (mV (rv 69 ρ σ) fun v σ => (AV.bool (match v with | .none => false | _ => true), σ)) fun v σ => (asB v).bind fun t => if t then bO (mV (mV (bV (some (AV.int (-1), σ)) fun v σ => mV (bV (some (AV.int (-1), σ)) fun v σ => mV (bV (rv 69 ρ σ) fun v σ => mV (some (([] : List AV), σ)) fun l σ => (v :: l, σ)) fun l σ => (v :: l, σ)) fun l σ => (v :: l, σ)) fun l σ => (AV.tup l, σ)) fun v σ => Out.ret v σ) fun ρ σ => some (Out.next ρ σ) else some (Out.next ρ σ)) fun ρ σ => bO (bV (bV (bV (rv 45 ρ σ) (oA 12)) fun v σ => mO (lenV v) σ) (oFR 36 ρ ueB)) fun ρ σ => bO (mV (some (AV.none, σ)) fun v σ => Out.ret v σ) fun ρ σ => some (Out.next ρ σ)) := rfl
theorem forL_nx {f : AV → Loc → Sto → Option Out} {v : AV} {r : List AV} {ρ : Loc} (ρ' : Loc) {X : Option Out} (h : f v ρ σ = some (.next ρ' σ)) (h2 : forL f r ρ' σ = X) : forL f (v :: r) ρ σ = X := by
  rw [forL, h]; exact h2
theorem forL_rt {f : AV → Loc → Sto → Option Out} {v a : AV} {r : List AV} {ρ : Loc} (h : f v ρ σ = some (.ret a σ)) : forL f (v :: r) ρ σ = some (.ret a σ) := by
  rw [forL, h]; rfl
noncomputable def ueL (ρ : Loc) (i : Int) : Loc := put 0 (.val .none) (put 36 (.val (.int i)) ρ)
noncomputable def UeS (ρ : Loc) (u : Nat) (pr : AV) : Prop := look 45 ρ = some (.val (.obj u)) ∧ look 52 ρ = some (.val pr)
theorem UeS.put {ρ : Loc} {pr v : AV} {k : Nat} (h : UeS ρ u pr) (n : k ≠ 45 ∧ k ≠ 52) : UeS (put k (.val v) ρ) u pr := ⟨by rw [look_put_ne n.1]; exact h.1, by rw [look_put_ne n.2]; exact h.2⟩
theorem UeS.next {ρ : Loc} {pr : AV} {i : Int} (h : UeS ρ u pr) : UeS (ueL ρ i) u pr := (h.put (by decide)).put (by decide)
theorem ue_arg {ρ : Loc} {pr r : AV} {i : Int} (h : UeS ρ u pr) (he : n_procedure_error [.obj u, .int i, pr] σ = some (r, σ)) :
    (mV (bV (bV (rv 45 (Mine.put 36 (.val (.int i)) ρ) σ) fun v σ => mV (bV (rv 36 (Mine.put 36 (.val (.int i)) ρ) σ) fun v σ => mV (bV (rv 52 (Mine.put 36 (.val (.int i)) ρ) σ) fun v σ => mV (some (([] : List AV), σ)) fun l σ => (v :: l, σ)) fun l σ => (v :: l, σ)) fun l σ => (v :: l, σ)) n_procedure_error) fun v σ => Out.next (Mine.put 0 (.val v) (Mine.put 36 (.val (.int i)) ρ)) σ) = some (.next (Mine.put 0 (.val r) (Mine.put 36 (.val (.int i)) ρ)) σ) := by
  have h' := h.put (k := 36) (v := .int i) (by decide)
  rw [rv_of h'.1, bV_some, rv_of look_put_eq, bV_some, rv_of h'.2, bV_some, mV_some, mV_some, mV_some, bV_some, he]; rfl
theorem ueB_none {ρ : Loc} {pr : AV} {i : Int} (h : UeS ρ u pr) (he : n_procedure_error [.obj u, .int i, pr] σ = some (.none, σ)) : ueB (Mine.put 36 (.val (.int i)) ρ) σ = some (.next (ueL ρ i) σ) := by
  unfold ueB
  refine bO_go σ (ueL ρ i) (ue_arg h he) (bO_n ?_)
  have e : rv 0 (ueL ρ i) σ = some (.none, σ) := rv_of look_put_eq σ
  rw [e]; rfl
theorem ueB_err {ρ : Loc} {pr : AV} {i j : Int} {w : Nat} (h : UeS ρ u pr) (he : n_procedure_error [.obj u, .int i, pr] σ = some (.tup [.int j, .str w], σ)) : ueB (Mine.put 36 (.val (.int i)) ρ) σ = some (.ret (.tup [.int i, .int j, .str w]) σ) := by
  unfold ueB
  refine bO_go σ _ (ue_arg h he) ?_
  have r36 : rv 36 (Mine.put 0 (.val (.tup [.int j, .str w])) (Mine.put 36 (.val (.int i)) ρ)) σ = some (.int i, σ) := rv_of (by rw [look_put_ne (by decide)]; exact look_put_eq) σ
  refine bO_rt ?_
  rw [rv_of look_put_eq, mV_some, bV_some]
  show Option.bind (some true) _ = _
  rw [Option.bind_some, iteT]
  exact bO_rt (by rw [r36, bV_some, rv_of look_put_eq, bV_some, bV_some, show subV σ (.tup [.int j, .str w]) (.int 0) = some (.int j) from rfl, mO_some, bV_some, rv_of look_put_eq]; rfl)
theorem ue_gen {pr r0 r1 r2 : AV} (hu : σ[u]? = some (uO a b d s)) (hs : n_start_word [.obj u] σ = some (.none, σ)) (n0 : noneOr r0) (n1 : noneOr r1) (n2 : noneOr r2) (h0 : n_procedure_error [.obj u, .int 0, pr] σ = some (r0, σ))
    (h1 : r0 = .none → n_procedure_error [.obj u, .int 1, pr] σ = some (r1, σ)) (h2 : r0 = .none → r1 = .none → n_procedure_error [.obj u, .int 2, pr] σ = some (r2, σ)) : n_unit_error [.obj u, pr] σ = some (ueV r0 r1 r2, σ) := by
  have lp : fits [AV.obj a, .obj b, .obj d] = true := rfl
  have S0 : UeS (Mine.put 69 (.val .none) [(45, .val (.obj u)), (52, .val pr)]) u pr := ⟨rfl, rfl⟩
  have f12 : fldO 12 (some (uO a b d s)) σ = some (.lst [.obj a, .obj b, .obj d], σ) := rfl
  have e12 := fld_eq (σ := σ) S0.1 hu f12
  have e45 : rv 45 [(45, .val (.obj u)), (52, .val pr)] σ = some (.obj u, σ) := rfl
  have e69 : rv 69 (Mine.put 69 (.val .none) [(45, .val (.obj u)), (52, .val pr)]) σ = some (.none, σ) := rfl
  rw [n_unit_error_eq]
  refine (congrArg fin (bO_go σ (Mine.put 69 (.val .none) [(45, .val (.obj u)), (52, .val pr)]) ?a (bO_go σ (Mine.put 69 (.val .none) [(45, .val (.obj u)), (52, .val pr)]) ?b ?c))).trans fin_ret
  case a => 
    show mV (bV (bV (rv 45 [(45, .val (.obj u)), (52, .val pr)] σ) _) _) _ = _
    rw [e45, bV_some, mV_some, bV_some, hs]; rfl
  case b => rw [e69]; rfl
  case c =>
    have hr : oFR 36 (Mine.put 69 (.val .none) [(45, .val (.obj u)), (52, .val pr)]) ueB (.int (([AV.obj a, .obj b, .obj d].length : Nat) : Int)) σ = forL (fun v ρ σ => ueB (Mine.put 36 (.val v) ρ) σ) [.int 0, .int 1, .int 2] (Mine.put 69 (.val .none) [(45, .val (.obj u)), (52, .val pr)]) σ := rfl
    rw [e12, bV_some, lenV_lst lp, mO_some, bV_some, hr]
    rcases n0 with rfl | ⟨i, w, rfl⟩
    · have h1 := h1 rfl
      have S1 := S0.next (i := 0)
      rcases n1 with rfl | ⟨i, w, rfl⟩
      · have h2 := h2 rfl rfl
        have S2 := S1.next (i := 1)
        rcases n2 with rfl | ⟨i, w, rfl⟩
        · exact (bO_go σ _ (forL_nx _ (ueB_none S0 h0) (forL_nx _ (ueB_none S1 h1) (forL_nx _ (ueB_none S2 h2) rfl))) rfl)
        · exact bO_rt (forL_nx _ (ueB_none S0 h0) (forL_nx _ (ueB_none S1 h1) (forL_rt (ueB_err S2 h2))))
      · exact bO_rt (forL_nx _ (ueB_none S0 h0) (forL_rt (ueB_err S1 h1)))
    · exact bO_rt (forL_rt (ueB_err S0 h0))
end
end Mine
/-! part OA -/
namespace Mine
open PySem PySem.W

noncomputable def tur (a b c : Int) (k : Nat) : AV := .tup [.dct [.int 3, .int 4, .int 5] [.int a, .int b, .int c], .int (k : Int)]
noncomputable def preK (k : Nat) : List Ins := List.replicate k (.two 84 1 2)
noncomputable def coreT (a b c : Int) (k : Nat) : List Ins := [.two 83 a 1, .two 84 b a, .two 9 c 1, .two 50 a 0, .two 85 0 b, .two 86 1 c, .prim b 2 [a, c], .clo a 1 [b, c], .fix (b, [a, b]) [(c, [b, c])], .brf b (12 + (k : Int)), .jump (12 + (k : Int)), .give 0 [a]]
noncomputable def L1 (a b c : Int) (k : Nat) : List Ins := preK k ++ (coreT a b c k ++ [.call a 0 [b, c]])
noncomputable def L2 (a b c : Int) (k : Nat) : List Ins := preK k ++ (coreT a b c k ++ [.give 0 [1, 2, b]])
noncomputable def P0T : Pr := ⟨0, 0, 3, 0, false, false, .str 16, [.two 83 1 0, .clo 2 1 [1, 1], .call 2 0 [1, 1]]⟩
noncomputable def P1T (L : List Ins) : Pr := ⟨1, 2, 6, 2, false, false, .str 101, L⟩
noncomputable def P2T (L : List Ins) : Pr := ⟨2, 2, 6, 2, true, true, .str 101, L⟩
noncomputable def unitT (o : List AO) (i : Nat) (a b c : Int) (k : Nat) : Sto := o ++ [prO P0T, prO (P1T (L1 a b c k)), prO (P2T (L2 a b c k)), uO i (i + 1) (i + 2) 0]
noncomputable def altT (a b c : Int) (k : Nat) : List (Nat × Ins × Nat) := [(0, .two 83 6 1, 32), (0, .two 83 a 2, 49), (1, .two 84 b (-1), 24), (2, .two 9 c 2, 9), (3, .two 50 a 2, 50), (6, .prim b 9 [a, c], 51), (7, .clo a 1 [b], 55), (7, .clo a 3 [b, c], 18), (8, .fix (b, [a]) [], 27),
  (8, .fix (b, [a, b]) [(b, [b, c])], 27), (9, .brf b (13 + (k : Int)), 34), (6, .prim b 2 [a, 6], 26), (10, .bad, 54), (11, .gave 0 [a], 21), (12, .two 84 a b, 72)]
noncomputable def earT (a b c : Int) (k : Nat) (L : List Ins) : List (Nat × List Ins) := [(6 + k, L.set (2 + k) (.jump (6 + (k : Int)))), (k + 1, L.set k (.brf 1 (12 + (k : Int)))), (5 + k, (L.set (8 + k) (.fix (b, [a, b]) [])).set (2 + k) (.two 84 b a))]
noncomputable def wsA : List Int := [0, 1, 2, 3, 4, 5, 6, 7, 8, 9, 10, 11, 12, 13, 14]
noncomputable def opR (n : Int) (k : Nat) (f : Ins → Nat → Sto) (t : Nat × Ins × Nat) : Option (AV × Sto) := some (.tup [.int n, .int ((t.1 + k : Nat) : Int), .str t.2.2], f t.2.1 (t.1 + k))
noncomputable def eaR (n : Int) (f : List Ins → Sto) (t : Nat × List Ins) : Option (AV × Sto) := some (.tup [.int n, .int ((t.1 : Nat) : Int), .str 73], f t.2)
section
variable {a b c : Int} {o0 o1 o2 o3 o4 x0 x1 x2 x3 : AO}
theorem uk_0 : n_law_unit [tur a b c 0] [o0] = some (.obj 4, unitT [o0] 1 a b c 0) := by kernel_rfl
theorem vk_0 : n_law_unit [tur a b c 0] [o0, o1, o2, o3, o4] = some (.obj 8, unitT [o0, o1, o2, o3, o4] 5 a b c 0) := by kernel_rfl
theorem op1_0 : wsA.map (fun w => n_law_operand [.obj 2, tur a b c 0, .int w, .int 1] [o0, x0, prO (P1T (L1 a b c 0)), x2, x3]) = (altT a b c 0).map (opR 1 0 fun i j => [o0, x0, prO (P1T ((L1 a b c 0).set j i)), x2, x3]) := by kernel_rfl
theorem op2_0 : wsA.map (fun w => n_law_operand [.obj 3, tur a b c 0, .int w, .int 2] [o0, x0, x1, prO (P2T (L2 a b c 0)), x3]) = (altT a b c 0).map (opR 2 0 fun i j => [o0, x0, x1, prO (P2T ((L2 a b c 0).set j i)), x3]) := by kernel_rfl
theorem ea1_0 : ([0, 1, 2] : List Int).map (fun w => n_law_early [.obj 2, tur a b c 0, .int w, .int 1] [o0, x0, prO (P1T (L1 a b c 0)), x2, x3]) = (earT a b c 0 (L1 a b c 0)).map (eaR 1 fun l => [o0, x0, prO (P1T l), x2, x3]) := by kernel_rfl
theorem ea2_0 : ([0, 1, 2] : List Int).map (fun w => n_law_early [.obj 3, tur a b c 0, .int w, .int 2] [o0, x0, x1, prO (P2T (L2 a b c 0)), x3]) = (earT a b c 0 (L2 a b c 0)).map (eaR 2 fun l => [o0, x0, x1, prO (P2T l), x3]) := by kernel_rfl
theorem uk_1 : n_law_unit [tur a b c 1] [o0] = some (.obj 4, unitT [o0] 1 a b c 1) := by kernel_rfl
theorem vk_1 : n_law_unit [tur a b c 1] [o0, o1, o2, o3, o4] = some (.obj 8, unitT [o0, o1, o2, o3, o4] 5 a b c 1) := by kernel_rfl
theorem op1_1 : wsA.map (fun w => n_law_operand [.obj 2, tur a b c 1, .int w, .int 1] [o0, x0, prO (P1T (L1 a b c 1)), x2, x3]) = (altT a b c 1).map (opR 1 1 fun i j => [o0, x0, prO (P1T ((L1 a b c 1).set j i)), x2, x3]) := by kernel_rfl
theorem op2_1 : wsA.map (fun w => n_law_operand [.obj 3, tur a b c 1, .int w, .int 2] [o0, x0, x1, prO (P2T (L2 a b c 1)), x3]) = (altT a b c 1).map (opR 2 1 fun i j => [o0, x0, x1, prO (P2T ((L2 a b c 1).set j i)), x3]) := by kernel_rfl
theorem ea1_1 : ([0, 1, 2] : List Int).map (fun w => n_law_early [.obj 2, tur a b c 1, .int w, .int 1] [o0, x0, prO (P1T (L1 a b c 1)), x2, x3]) = (earT a b c 1 (L1 a b c 1)).map (eaR 1 fun l => [o0, x0, prO (P1T l), x2, x3]) := by kernel_rfl
theorem ea2_1 : ([0, 1, 2] : List Int).map (fun w => n_law_early [.obj 3, tur a b c 1, .int w, .int 2] [o0, x0, x1, prO (P2T (L2 a b c 1)), x3]) = (earT a b c 1 (L2 a b c 1)).map (eaR 2 fun l => [o0, x0, x1, prO (P2T l), x3]) := by kernel_rfl
theorem uk_2 : n_law_unit [tur a b c 2] [o0] = some (.obj 4, unitT [o0] 1 a b c 2) := by kernel_rfl
theorem vk_2 : n_law_unit [tur a b c 2] [o0, o1, o2, o3, o4] = some (.obj 8, unitT [o0, o1, o2, o3, o4] 5 a b c 2) := by kernel_rfl
theorem op1_2 : wsA.map (fun w => n_law_operand [.obj 2, tur a b c 2, .int w, .int 1] [o0, x0, prO (P1T (L1 a b c 2)), x2, x3]) = (altT a b c 2).map (opR 1 2 fun i j => [o0, x0, prO (P1T ((L1 a b c 2).set j i)), x2, x3]) := by kernel_rfl
theorem op2_2 : wsA.map (fun w => n_law_operand [.obj 3, tur a b c 2, .int w, .int 2] [o0, x0, x1, prO (P2T (L2 a b c 2)), x3]) = (altT a b c 2).map (opR 2 2 fun i j => [o0, x0, x1, prO (P2T ((L2 a b c 2).set j i)), x3]) := by kernel_rfl
theorem ea1_2 : ([0, 1, 2] : List Int).map (fun w => n_law_early [.obj 2, tur a b c 2, .int w, .int 1] [o0, x0, prO (P1T (L1 a b c 2)), x2, x3]) = (earT a b c 2 (L1 a b c 2)).map (eaR 1 fun l => [o0, x0, prO (P1T l), x2, x3]) := by kernel_rfl
theorem ea2_2 : ([0, 1, 2] : List Int).map (fun w => n_law_early [.obj 3, tur a b c 2, .int w, .int 2] [o0, x0, x1, prO (P2T (L2 a b c 2)), x3]) = (earT a b c 2 (L2 a b c 2)).map (eaR 2 fun l => [o0, x0, x1, prO (P2T l), x3]) := by kernel_rfl
theorem uk_3 : n_law_unit [tur a b c 3] [o0] = some (.obj 4, unitT [o0] 1 a b c 3) := by kernel_rfl
theorem vk_3 : n_law_unit [tur a b c 3] [o0, o1, o2, o3, o4] = some (.obj 8, unitT [o0, o1, o2, o3, o4] 5 a b c 3) := by kernel_rfl
theorem op1_3 : wsA.map (fun w => n_law_operand [.obj 2, tur a b c 3, .int w, .int 1] [o0, x0, prO (P1T (L1 a b c 3)), x2, x3]) = (altT a b c 3).map (opR 1 3 fun i j => [o0, x0, prO (P1T ((L1 a b c 3).set j i)), x2, x3]) := by kernel_rfl
theorem op2_3 : wsA.map (fun w => n_law_operand [.obj 3, tur a b c 3, .int w, .int 2] [o0, x0, x1, prO (P2T (L2 a b c 3)), x3]) = (altT a b c 3).map (opR 2 3 fun i j => [o0, x0, x1, prO (P2T ((L2 a b c 3).set j i)), x3]) := by kernel_rfl
theorem ea1_3 : ([0, 1, 2] : List Int).map (fun w => n_law_early [.obj 2, tur a b c 3, .int w, .int 1] [o0, x0, prO (P1T (L1 a b c 3)), x2, x3]) = (earT a b c 3 (L1 a b c 3)).map (eaR 1 fun l => [o0, x0, prO (P1T l), x2, x3]) := by kernel_rfl
theorem ea2_3 : ([0, 1, 2] : List Int).map (fun w => n_law_early [.obj 3, tur a b c 3, .int w, .int 2] [o0, x0, x1, prO (P2T (L2 a b c 3)), x3]) = (earT a b c 3 (L2 a b c 3)).map (eaR 2 fun l => [o0, x0, x1, prO (P2T l), x3]) := by kernel_rfl
theorem uk_4 : n_law_unit [tur a b c 4] [o0] = some (.obj 4, unitT [o0] 1 a b c 4) := by kernel_rfl
theorem vk_4 : n_law_unit [tur a b c 4] [o0, o1, o2, o3, o4] = some (.obj 8, unitT [o0, o1, o2, o3, o4] 5 a b c 4) := by kernel_rfl
theorem op1_4 : wsA.map (fun w => n_law_operand [.obj 2, tur a b c 4, .int w, .int 1] [o0, x0, prO (P1T (L1 a b c 4)), x2, x3]) = (altT a b c 4).map (opR 1 4 fun i j => [o0, x0, prO (P1T ((L1 a b c 4).set j i)), x2, x3]) := by kernel_rfl
theorem op2_4 : wsA.map (fun w => n_law_operand [.obj 3, tur a b c 4, .int w, .int 2] [o0, x0, x1, prO (P2T (L2 a b c 4)), x3]) = (altT a b c 4).map (opR 2 4 fun i j => [o0, x0, x1, prO (P2T ((L2 a b c 4).set j i)), x3]) := by kernel_rfl
theorem ea1_4 : ([0, 1, 2] : List Int).map (fun w => n_law_early [.obj 2, tur a b c 4, .int w, .int 1] [o0, x0, prO (P1T (L1 a b c 4)), x2, x3]) = (earT a b c 4 (L1 a b c 4)).map (eaR 1 fun l => [o0, x0, prO (P1T l), x2, x3]) := by kernel_rfl
theorem ea2_4 : ([0, 1, 2] : List Int).map (fun w => n_law_early [.obj 3, tur a b c 4, .int w, .int 2] [o0, x0, x1, prO (P2T (L2 a b c 4)), x3]) = (earT a b c 4 (L2 a b c 4)).map (eaR 2 fun l => [o0, x0, x1, prO (P2T l), x3]) := by kernel_rfl
theorem uk_5 : n_law_unit [tur a b c 5] [o0] = some (.obj 4, unitT [o0] 1 a b c 5) := by kernel_rfl
theorem vk_5 : n_law_unit [tur a b c 5] [o0, o1, o2, o3, o4] = some (.obj 8, unitT [o0, o1, o2, o3, o4] 5 a b c 5) := by kernel_rfl
theorem op1_5 : wsA.map (fun w => n_law_operand [.obj 2, tur a b c 5, .int w, .int 1] [o0, x0, prO (P1T (L1 a b c 5)), x2, x3]) = (altT a b c 5).map (opR 1 5 fun i j => [o0, x0, prO (P1T ((L1 a b c 5).set j i)), x2, x3]) := by kernel_rfl
theorem op2_5 : wsA.map (fun w => n_law_operand [.obj 3, tur a b c 5, .int w, .int 2] [o0, x0, x1, prO (P2T (L2 a b c 5)), x3]) = (altT a b c 5).map (opR 2 5 fun i j => [o0, x0, x1, prO (P2T ((L2 a b c 5).set j i)), x3]) := by kernel_rfl
theorem ea1_5 : ([0, 1, 2] : List Int).map (fun w => n_law_early [.obj 2, tur a b c 5, .int w, .int 1] [o0, x0, prO (P1T (L1 a b c 5)), x2, x3]) = (earT a b c 5 (L1 a b c 5)).map (eaR 1 fun l => [o0, x0, prO (P1T l), x2, x3]) := by kernel_rfl
theorem ea2_5 : ([0, 1, 2] : List Int).map (fun w => n_law_early [.obj 3, tur a b c 5, .int w, .int 2] [o0, x0, x1, prO (P2T (L2 a b c 5)), x3]) = (earT a b c 5 (L2 a b c 5)).map (eaR 2 fun l => [o0, x0, x1, prO (P2T l), x3]) := by kernel_rfl
theorem uk_6 : n_law_unit [tur a b c 6] [o0] = some (.obj 4, unitT [o0] 1 a b c 6) := by kernel_rfl
theorem vk_6 : n_law_unit [tur a b c 6] [o0, o1, o2, o3, o4] = some (.obj 8, unitT [o0, o1, o2, o3, o4] 5 a b c 6) := by kernel_rfl
theorem op1_6 : wsA.map (fun w => n_law_operand [.obj 2, tur a b c 6, .int w, .int 1] [o0, x0, prO (P1T (L1 a b c 6)), x2, x3]) = (altT a b c 6).map (opR 1 6 fun i j => [o0, x0, prO (P1T ((L1 a b c 6).set j i)), x2, x3]) := by kernel_rfl
theorem op2_6 : wsA.map (fun w => n_law_operand [.obj 3, tur a b c 6, .int w, .int 2] [o0, x0, x1, prO (P2T (L2 a b c 6)), x3]) = (altT a b c 6).map (opR 2 6 fun i j => [o0, x0, x1, prO (P2T ((L2 a b c 6).set j i)), x3]) := by kernel_rfl
theorem ea1_6 : ([0, 1, 2] : List Int).map (fun w => n_law_early [.obj 2, tur a b c 6, .int w, .int 1] [o0, x0, prO (P1T (L1 a b c 6)), x2, x3]) = (earT a b c 6 (L1 a b c 6)).map (eaR 1 fun l => [o0, x0, prO (P1T l), x2, x3]) := by kernel_rfl
theorem ea2_6 : ([0, 1, 2] : List Int).map (fun w => n_law_early [.obj 3, tur a b c 6, .int w, .int 2] [o0, x0, x1, prO (P2T (L2 a b c 6)), x3]) = (earT a b c 6 (L2 a b c 6)).map (eaR 2 fun l => [o0, x0, x1, prO (P2T l), x3]) := by kernel_rfl
theorem uk_7 : n_law_unit [tur a b c 7] [o0] = some (.obj 4, unitT [o0] 1 a b c 7) := by kernel_rfl
theorem vk_7 : n_law_unit [tur a b c 7] [o0, o1, o2, o3, o4] = some (.obj 8, unitT [o0, o1, o2, o3, o4] 5 a b c 7) := by kernel_rfl
theorem op1_7 : wsA.map (fun w => n_law_operand [.obj 2, tur a b c 7, .int w, .int 1] [o0, x0, prO (P1T (L1 a b c 7)), x2, x3]) = (altT a b c 7).map (opR 1 7 fun i j => [o0, x0, prO (P1T ((L1 a b c 7).set j i)), x2, x3]) := by kernel_rfl
theorem op2_7 : wsA.map (fun w => n_law_operand [.obj 3, tur a b c 7, .int w, .int 2] [o0, x0, x1, prO (P2T (L2 a b c 7)), x3]) = (altT a b c 7).map (opR 2 7 fun i j => [o0, x0, x1, prO (P2T ((L2 a b c 7).set j i)), x3]) := by kernel_rfl
theorem ea1_7 : ([0, 1, 2] : List Int).map (fun w => n_law_early [.obj 2, tur a b c 7, .int w, .int 1] [o0, x0, prO (P1T (L1 a b c 7)), x2, x3]) = (earT a b c 7 (L1 a b c 7)).map (eaR 1 fun l => [o0, x0, prO (P1T l), x2, x3]) := by kernel_rfl
theorem ea2_7 : ([0, 1, 2] : List Int).map (fun w => n_law_early [.obj 3, tur a b c 7, .int w, .int 2] [o0, x0, x1, prO (P2T (L2 a b c 7)), x3]) = (earT a b c 7 (L2 a b c 7)).map (eaR 2 fun l => [o0, x0, x1, prO (P2T l), x3]) := by kernel_rfl
theorem uk_8 : n_law_unit [tur a b c 8] [o0] = some (.obj 4, unitT [o0] 1 a b c 8) := by kernel_rfl
theorem vk_8 : n_law_unit [tur a b c 8] [o0, o1, o2, o3, o4] = some (.obj 8, unitT [o0, o1, o2, o3, o4] 5 a b c 8) := by kernel_rfl
theorem op1_8 : wsA.map (fun w => n_law_operand [.obj 2, tur a b c 8, .int w, .int 1] [o0, x0, prO (P1T (L1 a b c 8)), x2, x3]) = (altT a b c 8).map (opR 1 8 fun i j => [o0, x0, prO (P1T ((L1 a b c 8).set j i)), x2, x3]) := by kernel_rfl
theorem op2_8 : wsA.map (fun w => n_law_operand [.obj 3, tur a b c 8, .int w, .int 2] [o0, x0, x1, prO (P2T (L2 a b c 8)), x3]) = (altT a b c 8).map (opR 2 8 fun i j => [o0, x0, x1, prO (P2T ((L2 a b c 8).set j i)), x3]) := by kernel_rfl
theorem ea1_8 : ([0, 1, 2] : List Int).map (fun w => n_law_early [.obj 2, tur a b c 8, .int w, .int 1] [o0, x0, prO (P1T (L1 a b c 8)), x2, x3]) = (earT a b c 8 (L1 a b c 8)).map (eaR 1 fun l => [o0, x0, prO (P1T l), x2, x3]) := by kernel_rfl
theorem ea2_8 : ([0, 1, 2] : List Int).map (fun w => n_law_early [.obj 3, tur a b c 8, .int w, .int 2] [o0, x0, x1, prO (P2T (L2 a b c 8)), x3]) = (earT a b c 8 (L2 a b c 8)).map (eaR 2 fun l => [o0, x0, x1, prO (P2T l), x3]) := by kernel_rfl
theorem uk_all (k : Nat) (hk : k ≤ 8) : n_law_unit [tur a b c k] [o0] = some (.obj 4, unitT [o0] 1 a b c k) := by
  obtain rfl | rfl | rfl | rfl | rfl | rfl | rfl | rfl | rfl : k = 0 ∨ k = 1 ∨ k = 2 ∨ k = 3 ∨ k = 4 ∨ k = 5 ∨ k = 6 ∨ k = 7 ∨ k = 8 := by omega
  · exact uk_0
  · exact uk_1
  · exact uk_2
  · exact uk_3
  · exact uk_4
  · exact uk_5
  · exact uk_6
  · exact uk_7
  · exact uk_8
theorem vk_all (k : Nat) (hk : k ≤ 8) : n_law_unit [tur a b c k] [o0, o1, o2, o3, o4] = some (.obj 8, unitT [o0, o1, o2, o3, o4] 5 a b c k) := by
  obtain rfl | rfl | rfl | rfl | rfl | rfl | rfl | rfl | rfl : k = 0 ∨ k = 1 ∨ k = 2 ∨ k = 3 ∨ k = 4 ∨ k = 5 ∨ k = 6 ∨ k = 7 ∨ k = 8 := by omega
  · exact vk_0
  · exact vk_1
  · exact vk_2
  · exact vk_3
  · exact vk_4
  · exact vk_5
  · exact vk_6
  · exact vk_7
  · exact vk_8
theorem op1_all (k : Nat) (hk : k ≤ 8) : wsA.map (fun w => n_law_operand [.obj 2, tur a b c k, .int w, .int 1] [o0, x0, prO (P1T (L1 a b c k)), x2, x3]) = (altT a b c k).map (opR 1 k fun i j => [o0, x0, prO (P1T ((L1 a b c k).set j i)), x2, x3]) := by
  obtain rfl | rfl | rfl | rfl | rfl | rfl | rfl | rfl | rfl : k = 0 ∨ k = 1 ∨ k = 2 ∨ k = 3 ∨ k = 4 ∨ k = 5 ∨ k = 6 ∨ k = 7 ∨ k = 8 := by omega
  · exact op1_0
  · exact op1_1
  · exact op1_2
  · exact op1_3
  · exact op1_4
  · exact op1_5
  · exact op1_6
  · exact op1_7
  · exact op1_8
theorem op2_all (k : Nat) (hk : k ≤ 8) : wsA.map (fun w => n_law_operand [.obj 3, tur a b c k, .int w, .int 2] [o0, x0, x1, prO (P2T (L2 a b c k)), x3]) = (altT a b c k).map (opR 2 k fun i j => [o0, x0, x1, prO (P2T ((L2 a b c k).set j i)), x3]) := by
  obtain rfl | rfl | rfl | rfl | rfl | rfl | rfl | rfl | rfl : k = 0 ∨ k = 1 ∨ k = 2 ∨ k = 3 ∨ k = 4 ∨ k = 5 ∨ k = 6 ∨ k = 7 ∨ k = 8 := by omega
  · exact op2_0
  · exact op2_1
  · exact op2_2
  · exact op2_3
  · exact op2_4
  · exact op2_5
  · exact op2_6
  · exact op2_7
  · exact op2_8
theorem ea1_all (k : Nat) (hk : k ≤ 8) : ([0, 1, 2] : List Int).map (fun w => n_law_early [.obj 2, tur a b c k, .int w, .int 1] [o0, x0, prO (P1T (L1 a b c k)), x2, x3]) = (earT a b c k (L1 a b c k)).map (eaR 1 fun l => [o0, x0, prO (P1T l), x2, x3]) := by
  obtain rfl | rfl | rfl | rfl | rfl | rfl | rfl | rfl | rfl : k = 0 ∨ k = 1 ∨ k = 2 ∨ k = 3 ∨ k = 4 ∨ k = 5 ∨ k = 6 ∨ k = 7 ∨ k = 8 := by omega
  · exact ea1_0
  · exact ea1_1
  · exact ea1_2
  · exact ea1_3
  · exact ea1_4
  · exact ea1_5
  · exact ea1_6
  · exact ea1_7
  · exact ea1_8
theorem ea2_all (k : Nat) (hk : k ≤ 8) : ([0, 1, 2] : List Int).map (fun w => n_law_early [.obj 3, tur a b c k, .int w, .int 2] [o0, x0, x1, prO (P2T (L2 a b c k)), x3]) = (earT a b c k (L2 a b c k)).map (eaR 2 fun l => [o0, x0, x1, prO (P2T l), x3]) := by
  obtain rfl | rfl | rfl | rfl | rfl | rfl | rfl | rfl | rfl : k = 0 ∨ k = 1 ∨ k = 2 ∨ k = 3 ∨ k = 4 ∨ k = 5 ∨ k = 6 ∨ k = 7 ∨ k = 8 := by omega
  · exact ea2_0
  · exact ea2_1
  · exact ea2_2
  · exact ea2_3
  · exact ea2_4
  · exact ea2_5
  · exact ea2_6
  · exact ea2_7
  · exact ea2_8
noncomputable def hdV (P : Pr) (w : Nat) : Pr := if w = 0 then { P with nb := 7 } else if w = 1 then { P with R := 2 } else if w = 2 then { P with L := [] } else { P with need := -1 }
noncomputable def hdW (w : Nat) : Nat := if w = 0 then 3 else if w = 1 then 8 else if w = 2 then 67 else 66
theorem h1_0 {L : List Ins} : n_law_headed [.obj 4, .int 0, .int 1] [o0, x0, prO (P1T L), x2, uO 1 2 3 0] = some (.tup [.int 1, .int (-1), .str (hdW 0)], [o0, x0, prO (hdV (P1T L) 0), x2, uO 1 2 3 0]) := by kernel_rfl
theorem h2_0 {L : List Ins} : n_law_headed [.obj 4, .int 0, .int 2] [o0, x0, x1, prO (P2T L), uO 1 2 3 0] = some (.tup [.int 2, .int (-1), .str (hdW 0)], [o0, x0, x1, prO (hdV (P2T L) 0), uO 1 2 3 0]) := by kernel_rfl
theorem h1_1 {L : List Ins} : n_law_headed [.obj 4, .int 1, .int 1] [o0, x0, prO (P1T L), x2, uO 1 2 3 0] = some (.tup [.int 1, .int (-1), .str (hdW 1)], [o0, x0, prO (hdV (P1T L) 1), x2, uO 1 2 3 0]) := by kernel_rfl
theorem h2_1 {L : List Ins} : n_law_headed [.obj 4, .int 1, .int 2] [o0, x0, x1, prO (P2T L), uO 1 2 3 0] = some (.tup [.int 2, .int (-1), .str (hdW 1)], [o0, x0, x1, prO (hdV (P2T L) 1), uO 1 2 3 0]) := by kernel_rfl
theorem h1_2 {L : List Ins} : n_law_headed [.obj 4, .int 2, .int 1] [o0, x0, prO (P1T L), x2, uO 1 2 3 0] = some (.tup [.int 1, .int (-1), .str (hdW 2)], [o0, x0, prO (hdV (P1T L) 2), x2, uO 1 2 3 0]) := by kernel_rfl
theorem h2_2 {L : List Ins} : n_law_headed [.obj 4, .int 2, .int 2] [o0, x0, x1, prO (P2T L), uO 1 2 3 0] = some (.tup [.int 2, .int (-1), .str (hdW 2)], [o0, x0, x1, prO (hdV (P2T L) 2), uO 1 2 3 0]) := by kernel_rfl
theorem h1_3 {L : List Ins} : n_law_headed [.obj 4, .int 3, .int 1] [o0, x0, prO (P1T L), x2, uO 1 2 3 0] = some (.tup [.int 1, .int (-1), .str (hdW 3)], [o0, x0, prO (hdV (P1T L) 3), x2, uO 1 2 3 0]) := by kernel_rfl
theorem h2_3 {L : List Ins} : n_law_headed [.obj 4, .int 3, .int 2] [o0, x0, x1, prO (P2T L), uO 1 2 3 0] = some (.tup [.int 2, .int (-1), .str (hdW 3)], [o0, x0, x1, prO (hdV (P2T L) 3), uO 1 2 3 0]) := by kernel_rfl
theorem hs_0 : n_law_headed [.obj 4, .int 4, .int 0] [o0, x0, x1, x2, uO 1 2 3 0] = some (.tup [.int (-1), .int (-1), .str 16], [o0, x0, x1, x2, uO 1 2 3 3]) := by kernel_rfl
theorem hs_1 : n_law_headed [.obj 4, .int 4, .int 1] [o0, x0, x1, x2, uO 1 2 3 0] = some (.tup [.int (-1), .int (-1), .str 16], [o0, x0, x1, x2, uO 1 2 3 1]) := by kernel_rfl
theorem hs_2 : n_law_headed [.obj 4, .int 4, .int 2] [o0, x0, x1, x2, uO 1 2 3 0] = some (.tup [.int (-1), .int (-1), .str 16], [o0, x0, x1, x2, uO 1 2 3 (-1)]) := by kernel_rfl
end
end Mine
/-! part OB -/
namespace Mine
open PySem

noncomputable def cOf (P : Pr) : Cx := ⟨P.R, P.L.length, P.fr, 3, 2, 2, 2⟩
noncomputable def isErr (v : AV) (i : Int) (w : Nat) : Bool := match v with
  | .tup [.int j, .str x] => decide (j = i) && Nat.beq x w
  | _ => false
theorem isErr_is {v : AV} {i : Int} {w : Nat} (h : isErr v i w = true) : v = .tup [.int i, .str w] := by
  unfold isErr at h
  split at h
  · simp only [Bool.and_eq_true, decide_eq_true_eq] at h
    rw [h.1, Nat.eq_of_beq_eq_true h.2]
  · cases h
theorem isNoneV_is {v : AV} (h : isNoneV v = true) : v = .none := by cases v <;> first | rfl | cases h
noncomputable def okNone (place : Int) (P : Pr) : Bool := peOk (cOf P) place P && isNoneV (peV (cOf P) place P) && decide (P.L.length ≤ 1000)
noncomputable def okErr (place : Int) (P : Pr) (i : Int) (w : Nat) : Bool := peOk (cOf P) place P && isErr (peV (cOf P) place P) i w && decide (P.L.length ≤ 1000)
section
variable {σ : Sto} {u a b d p : Nat} {P0 P1 P2 P : Pr} {s place : Int}
theorem ctx_at (hu : σ[u]? = some (uO a b d s)) (hp : σ[p]? = some (prO P)) (h1 : σ[b]? = some (prO P1)) (f1 : P1.fr = 2) (hl : P.L.length ≤ 1000) : CtxOk (cOf P) σ u p := by
  have h1' : σ[b]? = some (mP (.int P1.nb) P1.t (.int P1.need) (.bool P1.rest) (.bool P1.cont) (.int P1.R) (.int 2) (.lst (P1.L.map enc))) := by
    rw [h1]
    unfold prO
    rw [f1]
  refine ⟨a, b, d, _, _, _, _, _, _, _, _, _, _, _, _, _, _, _, _, hu, hp, h1', rfl, rfl, fits_of (by rw [List.length_map]; omega), by rw [List.length_map]; rfl, rfl, rfl⟩
theorem pe_none (hu : σ[u]? = some (uO a b d s)) (hpl : atI [.obj a, .obj b, .obj d] place = some (.obj p)) (hp : σ[p]? = some (prO P)) (h1 : σ[b]? = some (prO P1)) (f1 : P1.fr = 2) (ok : okNone place P = true) : n_procedure_error [.obj u, .int place, .int 3] σ = some (.none, σ) := by
  simp only [okNone, Bool.and_eq_true, decide_eq_true_eq] at ok
  have := pe_eq (ctx_at hu hp h1 f1 ok.2) hu hpl hp rfl ok.2 ok.1.1
  rw [isNoneV_is ok.1.2] at this
  exact this
theorem pe_err {i : Int} {w : Nat} (hu : σ[u]? = some (uO a b d s)) (hpl : atI [.obj a, .obj b, .obj d] place = some (.obj p)) (hp : σ[p]? = some (prO P)) (h1 : σ[b]? = some (prO P1)) (f1 : P1.fr = 2) (ok : okErr place P i w = true) : n_procedure_error [.obj u, .int place, .int 3] σ = some (.tup [.int i, .str w], σ) := by
  simp only [okErr, Bool.and_eq_true, decide_eq_true_eq] at ok
  have := pe_eq (ctx_at hu hp h1 f1 ok.2) hu hpl hp rfl ok.2 ok.1.1
  rw [isErr_is ok.1.2] at this
  exact this
theorem ok0 : okNone 0 P0T = true := by decide +kernel
theorem start0 (hu : σ[u]? = some (uO a b d 0)) (h0 : σ[a]? = some (prO P0T)) : n_start_word [.obj u] σ = some (.none, σ) := start_in hu rfl rfl h0
theorem ue_none (hu : σ[u]? = some (uO a b d 0)) (h0 : σ[a]? = some (prO P0T)) (h1 : σ[b]? = some (prO P1)) (h2 : σ[d]? = some (prO P2)) (f1 : P1.fr = 2) (k1 : okNone 1 P1 = true) (k2 : okNone 2 P2 = true) : n_unit_error [.obj u, .int 3] σ = some (.none, σ) :=
  ue_gen (r0 := .none) (r1 := .none) (r2 := .none) hu (start0 hu h0) (.inl rfl) (.inl rfl) (.inl rfl) (pe_none hu rfl h0 h1 f1 ok0) (fun _ => pe_none hu rfl h1 h1 f1 k1) fun _ _ => pe_none hu rfl h2 h1 f1 k2
theorem ue_one {i : Int} {w : Nat} (hu : σ[u]? = some (uO a b d 0)) (h0 : σ[a]? = some (prO P0T)) (h1 : σ[b]? = some (prO P1)) (f1 : P1.fr = 2) (k1 : okErr 1 P1 i w = true) : n_unit_error [.obj u, .int 3] σ = some (.tup [.int 1, .int i, .str w], σ) :=
  ue_gen (r0 := .none) (r1 := .tup [.int i, .str w]) (r2 := .none) hu (start0 hu h0) (.inl rfl) (.inr ⟨i, w, rfl⟩) (.inl rfl) (pe_none hu rfl h0 h1 f1 ok0) (fun _ => pe_err hu rfl h1 h1 f1 k1) fun _ z => by cases z
theorem ue_two {i : Int} {w : Nat} (hu : σ[u]? = some (uO a b d 0)) (h0 : σ[a]? = some (prO P0T)) (h1 : σ[b]? = some (prO P1)) (h2 : σ[d]? = some (prO P2)) (f1 : P1.fr = 2) (k1 : okNone 1 P1 = true) (k2 : okErr 2 P2 i w = true) : n_unit_error [.obj u, .int 3] σ = some (.tup [.int 2, .int i, .str w], σ) :=
  ue_gen (r0 := .none) (r1 := .none) (r2 := .tup [.int i, .str w]) hu (start0 hu h0) (.inl rfl) (.inl rfl) (.inr ⟨i, w, rfl⟩) (pe_none hu rfl h0 h1 f1 ok0) (fun _ => pe_none hu rfl h1 h1 f1 k1) fun _ _ => pe_err hu rfl h2 h1 f1 k2
theorem ue_start_out (hu : σ[u]? = some (uO a b d s)) (hs : inR 3 s = false) : n_unit_error [.obj u, .int 3] σ = some (.tup [.int (-1), .int (-1), .str 16], σ) := ue_start (start_out hu hs)
theorem ue_start_one (hu : σ[u]? = some (uO a b d 1)) (h1 : σ[b]? = some (prO P1)) (hn : P1.need = 2) : n_unit_error [.obj u, .int 3] σ = some (.tup [.int (-1), .int (-1), .str 16], σ) :=
  ue_start (by rw [start_in hu rfl rfl h1, hn]; rfl)
end
/-! all the draws -/
noncomputable def chkA (a b c : Int) (k : Nat) : Bool := okNone 1 (P1T (L1 a b c k)) && okNone 2 (P2T (L2 a b c k)) &&
  ((altT a b c k).all fun t => okErr 1 (P1T ((L1 a b c k).set (t.1 + k) t.2.1)) ((t.1 + k : Nat) : Int) t.2.2 && okErr 2 (P2T ((L2 a b c k).set (t.1 + k) t.2.1)) ((t.1 + k : Nat) : Int) t.2.2) &&
  ((earT a b c k (L1 a b c k)).all fun t => okErr 1 (P1T t.2) ((t.1 : Nat) : Int) 73) && ((earT a b c k (L2 a b c k)).all fun t => okErr 2 (P2T t.2) ((t.1 : Nat) : Int) 73) &&
  (([0, 1, 2, 3] : List Nat).all fun w => okErr 1 (hdV (P1T (L1 a b c k)) w) (-1) (hdW w) && okErr 2 (hdV (P2T (L2 a b c k)) w) (-1) (hdW w))
end Mine
/-! part OC -/
namespace Mine
open PySem

noncomputable def perm (f : Nat) : Int × Int × Int := match f with
  | 0 => (3, 4, 5) | 1 => (4, 3, 5) | 2 => (5, 3, 4) | 3 => (3, 5, 4) | 4 => (4, 5, 3) | _ => (5, 4, 3)
theorem ck_0_0 : chkA 3 4 5 0 = true := by decide +kernel
theorem ck_0_1 : chkA 3 4 5 1 = true := by decide +kernel
theorem ck_0_2 : chkA 3 4 5 2 = true := by decide +kernel
theorem ck_0_3 : chkA 3 4 5 3 = true := by decide +kernel
theorem ck_0_4 : chkA 3 4 5 4 = true := by decide +kernel
theorem ck_0_5 : chkA 3 4 5 5 = true := by decide +kernel
theorem ck_0_6 : chkA 3 4 5 6 = true := by decide +kernel
theorem ck_0_7 : chkA 3 4 5 7 = true := by decide +kernel
theorem ck_0_8 : chkA 3 4 5 8 = true := by decide +kernel
theorem ck_1_0 : chkA 4 3 5 0 = true := by decide +kernel
theorem ck_1_1 : chkA 4 3 5 1 = true := by decide +kernel
theorem ck_1_2 : chkA 4 3 5 2 = true := by decide +kernel
theorem ck_1_3 : chkA 4 3 5 3 = true := by decide +kernel
theorem ck_1_4 : chkA 4 3 5 4 = true := by decide +kernel
theorem ck_1_5 : chkA 4 3 5 5 = true := by decide +kernel
theorem ck_1_6 : chkA 4 3 5 6 = true := by decide +kernel
theorem ck_1_7 : chkA 4 3 5 7 = true := by decide +kernel
theorem ck_1_8 : chkA 4 3 5 8 = true := by decide +kernel
theorem ck_2_0 : chkA 5 3 4 0 = true := by decide +kernel
theorem ck_2_1 : chkA 5 3 4 1 = true := by decide +kernel
theorem ck_2_2 : chkA 5 3 4 2 = true := by decide +kernel
theorem ck_2_3 : chkA 5 3 4 3 = true := by decide +kernel
theorem ck_2_4 : chkA 5 3 4 4 = true := by decide +kernel
theorem ck_2_5 : chkA 5 3 4 5 = true := by decide +kernel
theorem ck_2_6 : chkA 5 3 4 6 = true := by decide +kernel
theorem ck_2_7 : chkA 5 3 4 7 = true := by decide +kernel
theorem ck_2_8 : chkA 5 3 4 8 = true := by decide +kernel
theorem ck_3_0 : chkA 3 5 4 0 = true := by decide +kernel
theorem ck_3_1 : chkA 3 5 4 1 = true := by decide +kernel
theorem ck_3_2 : chkA 3 5 4 2 = true := by decide +kernel
theorem ck_3_3 : chkA 3 5 4 3 = true := by decide +kernel
theorem ck_3_4 : chkA 3 5 4 4 = true := by decide +kernel
theorem ck_3_5 : chkA 3 5 4 5 = true := by decide +kernel
theorem ck_3_6 : chkA 3 5 4 6 = true := by decide +kernel
theorem ck_3_7 : chkA 3 5 4 7 = true := by decide +kernel
theorem ck_3_8 : chkA 3 5 4 8 = true := by decide +kernel
theorem ck_4_0 : chkA 4 5 3 0 = true := by decide +kernel
theorem ck_4_1 : chkA 4 5 3 1 = true := by decide +kernel
theorem ck_4_2 : chkA 4 5 3 2 = true := by decide +kernel
theorem ck_4_3 : chkA 4 5 3 3 = true := by decide +kernel
theorem ck_4_4 : chkA 4 5 3 4 = true := by decide +kernel
theorem ck_4_5 : chkA 4 5 3 5 = true := by decide +kernel
theorem ck_4_6 : chkA 4 5 3 6 = true := by decide +kernel
theorem ck_4_7 : chkA 4 5 3 7 = true := by decide +kernel
theorem ck_4_8 : chkA 4 5 3 8 = true := by decide +kernel
theorem ck_5_0 : chkA 5 4 3 0 = true := by decide +kernel
theorem ck_5_1 : chkA 5 4 3 1 = true := by decide +kernel
theorem ck_5_2 : chkA 5 4 3 2 = true := by decide +kernel
theorem ck_5_3 : chkA 5 4 3 3 = true := by decide +kernel
theorem ck_5_4 : chkA 5 4 3 4 = true := by decide +kernel
theorem ck_5_5 : chkA 5 4 3 5 = true := by decide +kernel
theorem ck_5_6 : chkA 5 4 3 6 = true := by decide +kernel
theorem ck_5_7 : chkA 5 4 3 7 = true := by decide +kernel
theorem ck_5_8 : chkA 5 4 3 8 = true := by decide +kernel
theorem ck_all (f k : Nat) (hf : f < 6) (hk : k ≤ 8) : chkA (perm f).1 (perm f).2.1 (perm f).2.2 k = true := by
  obtain rfl | rfl | rfl | rfl | rfl | rfl : f = 0 ∨ f = 1 ∨ f = 2 ∨ f = 3 ∨ f = 4 ∨ f = 5 := by omega
  · obtain rfl | rfl | rfl | rfl | rfl | rfl | rfl | rfl | rfl : k = 0 ∨ k = 1 ∨ k = 2 ∨ k = 3 ∨ k = 4 ∨ k = 5 ∨ k = 6 ∨ k = 7 ∨ k = 8 := by omega
    · exact ck_0_0
    · exact ck_0_1
    · exact ck_0_2
    · exact ck_0_3
    · exact ck_0_4
    · exact ck_0_5
    · exact ck_0_6
    · exact ck_0_7
    · exact ck_0_8
  · obtain rfl | rfl | rfl | rfl | rfl | rfl | rfl | rfl | rfl : k = 0 ∨ k = 1 ∨ k = 2 ∨ k = 3 ∨ k = 4 ∨ k = 5 ∨ k = 6 ∨ k = 7 ∨ k = 8 := by omega
    · exact ck_1_0
    · exact ck_1_1
    · exact ck_1_2
    · exact ck_1_3
    · exact ck_1_4
    · exact ck_1_5
    · exact ck_1_6
    · exact ck_1_7
    · exact ck_1_8
  · obtain rfl | rfl | rfl | rfl | rfl | rfl | rfl | rfl | rfl : k = 0 ∨ k = 1 ∨ k = 2 ∨ k = 3 ∨ k = 4 ∨ k = 5 ∨ k = 6 ∨ k = 7 ∨ k = 8 := by omega
    · exact ck_2_0
    · exact ck_2_1
    · exact ck_2_2
    · exact ck_2_3
    · exact ck_2_4
    · exact ck_2_5
    · exact ck_2_6
    · exact ck_2_7
    · exact ck_2_8
  · obtain rfl | rfl | rfl | rfl | rfl | rfl | rfl | rfl | rfl : k = 0 ∨ k = 1 ∨ k = 2 ∨ k = 3 ∨ k = 4 ∨ k = 5 ∨ k = 6 ∨ k = 7 ∨ k = 8 := by omega
    · exact ck_3_0
    · exact ck_3_1
    · exact ck_3_2
    · exact ck_3_3
    · exact ck_3_4
    · exact ck_3_5
    · exact ck_3_6
    · exact ck_3_7
    · exact ck_3_8
  · obtain rfl | rfl | rfl | rfl | rfl | rfl | rfl | rfl | rfl : k = 0 ∨ k = 1 ∨ k = 2 ∨ k = 3 ∨ k = 4 ∨ k = 5 ∨ k = 6 ∨ k = 7 ∨ k = 8 := by omega
    · exact ck_4_0
    · exact ck_4_1
    · exact ck_4_2
    · exact ck_4_3
    · exact ck_4_4
    · exact ck_4_5
    · exact ck_4_6
    · exact ck_4_7
    · exact ck_4_8
  · obtain rfl | rfl | rfl | rfl | rfl | rfl | rfl | rfl | rfl : k = 0 ∨ k = 1 ∨ k = 2 ∨ k = 3 ∨ k = 4 ∨ k = 5 ∨ k = 6 ∨ k = 7 ∨ k = 8 := by omega
    · exact ck_5_0
    · exact ck_5_1
    · exact ck_5_2
    · exact ck_5_3
    · exact ck_5_4
    · exact ck_5_5
    · exact ck_5_6
    · exact ck_5_7
    · exact ck_5_8
end Mine
/-! part OD -/
namespace Mine
open PySem

noncomputable def restM (ρ : Loc) (σ : Sto) : Option Out := bO (mV (bB true false (bV (bV (bV (rv 45 ρ σ) fun v σ => mV (bV (some (AV.int 3, σ)) fun v σ => mV (some (([] : List AV), σ)) fun l σ => (v :: l, σ)) fun l σ => (v :: l, σ)) n_unit_error) fun u σ => bV (rv 113 ρ σ) fun v σ => mB (cmpV CO.eq u v) σ) fun σ => bB true true (mV (bV (bV (bV (bV (rv 96 ρ σ) fun v σ => mV (some (([] : List AV), σ)) fun l σ => (v :: l, σ)) n_law_unit) fun v σ => mV (bV (some (AV.int 3, σ)) fun v σ => mV (some (([] : List AV), σ)) fun l σ => (v :: l, σ)) fun l σ => (v :: l, σ)) n_unit_error) fun v σ => (AV.bool (match v with | .none => true | _ => false), σ)) fun σ => (none : Option (AV × Sto))) fun v σ => Out.ret v σ) fun ρ σ => some (Out.next ρ σ)
noncomputable def wayL (ρ : Loc) (σ : Sto) : Option Out := bO (bV (bV (rv 105 ρ σ) fun u σ => bV (some (AV.int 5, σ)) fun v σ => mB (cmpV CO.lt u v) σ) fun v σ => (asB v).bind fun t => if t then bO (mV (bV (bV (rv 45 ρ σ) fun v σ => mV (bV (rv 105 ρ σ) fun v σ => mV (bV (bV (bV (rv 105 ρ σ) fun u σ => bV (some (AV.int 4, σ)) fun v σ => mB (cmpV CO.lt u v) σ) fun v σ => (asB v).bind fun t => if t then rv 3 ρ σ else bV (bV (rv 80 ρ σ) fun v σ => mV (bV (some (AV.int 3, σ)) fun v σ => mV (some (([] : List AV), σ)) fun l σ => (v :: l, σ)) fun l σ => (v :: l, σ)) n_law_dip) fun v σ => mV (some (([] : List AV), σ)) fun l σ => (v :: l, σ)) fun l σ => (v :: l, σ)) fun l σ => (v :: l, σ)) n_law_headed) fun v σ => Out.next (put 113 (.val v) ρ) σ) fun ρ σ => some (Out.next ρ σ) else bO (bV (bV (rv 105 ρ σ) fun u σ => bV (some (AV.int 20, σ)) fun v σ => mB (cmpV CO.lt u v) σ) fun v σ => (asB v).bind fun t => if t then bO (mV (bV (bV (rv 28 ρ σ) fun v σ => mV (bV (rv 96 ρ σ) fun v σ => mV (bV (bV (rv 105 ρ σ) fun u σ => bV (some (AV.int 5, σ)) fun v σ => mO (binV BO.sub u v) σ) fun v σ => mV (bV (rv 3 ρ σ) fun v σ => mV (some (([] : List AV), σ)) fun l σ => (v :: l, σ)) fun l σ => (v :: l, σ)) fun l σ => (v :: l, σ)) fun l σ => (v :: l, σ)) n_law_operand) fun v σ => Out.next (put 113 (.val v) ρ) σ) fun ρ σ => some (Out.next ρ σ) else bO (mV (bV (bV (rv 28 ρ σ) fun v σ => mV (bV (rv 96 ρ σ) fun v σ => mV (bV (bV (rv 105 ρ σ) fun u σ => bV (some (AV.int 20, σ)) fun v σ => mO (binV BO.sub u v) σ) fun v σ => mV (bV (rv 3 ρ σ) fun v σ => mV (some (([] : List AV), σ)) fun l σ => (v :: l, σ)) fun l σ => (v :: l, σ)) fun l σ => (v :: l, σ)) fun l σ => (v :: l, σ)) n_law_early) fun v σ => Out.next (put 113 (.val v) ρ) σ) fun ρ σ => some (Out.next ρ σ)) fun ρ σ => some (Out.next ρ σ)) fun ρ σ => restM ρ σ
noncomputable def restL (ρ : Loc) (σ : Sto) : Option Out := bO (mV (bV (bV (rv 96 ρ σ) fun v σ => mV (some (([] : List AV), σ)) fun l σ => (v :: l, σ)) n_law_unit) fun v σ => Out.next (put 45 (.val v) ρ) σ) fun ρ σ => bO (bV (mV (bV (bV (rv 45 ρ σ) fun v σ => mV (bV (some (AV.int 3, σ)) fun v σ => mV (some (([] : List AV), σ)) fun l σ => (v :: l, σ)) fun l σ => (v :: l, σ)) n_unit_error) fun v σ => (AV.bool (match v with | .none => false | _ => true), σ)) fun v σ => (asB v).bind fun t => if t then bO (mV (some (AV.bool false, σ)) fun v σ => Out.ret v σ) fun ρ σ => some (Out.next ρ σ) else some (Out.next ρ σ)) fun ρ σ => bO (mV (bV (bV (rv 45 ρ σ) (oA 12)) fun u σ => bV (rv 3 ρ σ) fun v σ => mO (subV σ u v) σ) fun v σ => Out.next (put 28 (.val v) ρ) σ) fun ρ σ => wayL ρ σ
noncomputable def m112 (ρ : Loc) (σ : Sto) : Option Out := mV (mV (bV (mV (bV (some (AV.int 3, σ)) fun v σ => mV (bV (some (AV.int 4, σ)) fun v σ => mV (bV (some (AV.int 5, σ)) fun v σ => mV (some (([] : List AV), σ)) fun l σ => (v :: l, σ)) fun l σ => (v :: l, σ)) fun l σ => (v :: l, σ)) fun l σ => (AV.tup l, σ)) (oC 43 ρ (fun ρ σ => bV (bV (rv 43 ρ σ) fun u σ => bV (bV (some (AV.int 3, σ)) fun u σ => bV (bV (rv 111 ρ σ) fun u σ => bV (some (AV.int 3, σ)) fun v σ => mO (binV BO.mod u v) σ) fun v σ => mO (binV BO.add u v) σ) fun v σ => mB (cmpV CO.ne u v) σ) fun v σ => (asB v).map fun b => (b, σ)) (fun ρ σ => rv 43 ρ σ))) fun l σ => (AV.lst l, σ)) fun v σ => Out.next (put 112 (.val v) ρ) σ
noncomputable def m95 (ρ : Loc) (σ : Sto) : Option Out := mV (bV (bV (some (AV.int 3, σ)) fun v σ => mV (bV (bV (some (AV.int 3, σ)) fun u σ => bV (bV (rv 111 ρ σ) fun u σ => bV (some (AV.int 3, σ)) fun v σ => mO (binV BO.mod u v) σ) fun v σ => mO (binV BO.add u v) σ) fun v σ => mV (bV (some (AV.int 4, σ)) fun v σ => mV (bV (bV (rv 112 ρ σ) fun u σ => bV (bV (rv 111 ρ σ) fun u σ => bV (some (AV.int 3, σ)) fun v σ => mO (binV BO.fdiv u v) σ) fun v σ => mO (subV σ u v) σ) fun v σ => mV (bV (some (AV.int 5, σ)) fun v σ => mV (bV (bV (rv 112 ρ σ) fun u σ => bV (bV (some (AV.int 1, σ)) fun u σ => bV (bV (rv 111 ρ σ) fun u σ => bV (some (AV.int 3, σ)) fun v σ => mO (binV BO.fdiv u v) σ) fun v σ => mO (binV BO.sub u v) σ) fun v σ => mO (subV σ u v) σ) fun v σ => mV (some (([] : List AV), σ)) fun l σ => (v :: l, σ)) fun l σ => (v :: l, σ)) fun l σ => (v :: l, σ)) fun l σ => (v :: l, σ)) fun l σ => (v :: l, σ)) fun l σ => (v :: l, σ)) oD) fun v σ => Out.next (put 95 (.val v) ρ) σ
noncomputable def m96 (ρ : Loc) (σ : Sto) : Option Out := mV (mV (bV (rv 95 ρ σ) fun v σ => mV (bV (bV (bV (rv 80 ρ σ) fun v σ => mV (bV (some (AV.int 9, σ)) fun v σ => mV (some (([] : List AV), σ)) fun l σ => (v :: l, σ)) fun l σ => (v :: l, σ)) n_law_dip) fun v σ => mV (some (([] : List AV), σ)) fun l σ => (v :: l, σ)) fun l σ => (v :: l, σ)) fun l σ => (AV.tup l, σ)) fun v σ => Out.next (put 96 (.val v) ρ) σ
noncomputable def permL (ρ : Loc) (σ : Sto) : Option Out := bO (m112 ρ σ) fun ρ σ => bO (m95 ρ σ) fun ρ σ => bO (m96 ρ σ) fun ρ σ => restL ρ σ
noncomputable def headL (ρ : Loc) (σ : Sto) : Option Out := bO (mV (bV (bV (rv 78 ρ σ) fun v σ => mV (some (([] : List AV), σ)) fun l σ => (v :: l, σ)) n_law_pot) fun v σ => Out.next (put 80 (.val v) ρ) σ) fun ρ σ => bO (bV (mV (bV (bV (bV (rv 80 ρ σ) fun v σ => mV (bV (some (AV.int 23, σ)) fun v σ => mV (some (([] : List AV), σ)) fun l σ => (v :: l, σ)) fun l σ => (v :: l, σ)) n_law_dip) fun v σ => mV (bV (bV (some (AV.int 1, σ)) fun u σ => bV (bV (bV (rv 80 ρ σ) fun v σ => mV (bV (some (AV.int 2, σ)) fun v σ => mV (some (([] : List AV), σ)) fun l σ => (v :: l, σ)) fun l σ => (v :: l, σ)) n_law_dip) fun v σ => mO (binV BO.add u v) σ) fun v σ => mV (bV (bV (bV (rv 80 ρ σ) fun v σ => mV (bV (some (AV.int 6, σ)) fun v σ => mV (some (([] : List AV), σ)) fun l σ => (v :: l, σ)) fun l σ => (v :: l, σ)) n_law_dip) fun v σ => mV (some (([] : List AV), σ)) fun l σ => (v :: l, σ)) fun l σ => (v :: l, σ)) fun l σ => (v :: l, σ)) fun l σ => (AV.tup l, σ)) (oU [105, 3, 111] ρ)) fun ρ σ => permL ρ σ
theorem n_law_eq : n_law = fun l σ => (bindAll p_law l).bind fun ρ => fin (headL ρ σ) := rfl

section
variable {σ1 σ2 σ3 σ4 : Sto} {ρ : Loc} {a b c : Int} {k q : Nat} {due : AV} {w n r : Int}
theorem restM_ok (h45 : look 45 ρ = some (.val (.obj 4))) (h113 : look 113 ρ = some (.val due)) (h96 : look 96 ρ = some (.val (tur a b c k))) (hE2 : n_unit_error [.obj 4, .int 3] σ2 = some (due, σ2)) (hq : cmpV .eq due due = some true)
    (hU : n_law_unit [tur a b c k] σ2 = some (.obj 8, σ3)) (hE3 : n_unit_error [.obj 8, .int 3] σ3 = some (.none, σ3)) : restM ρ σ2 = some (.ret (.bool true) σ3) := by
  have r45 := rv_of h45
  have r113 := rv_of h113
  have r96 := rv_of h96
  unfold restM
  simp only [r45, r113, r96, hE2, hq, hU, hE3, bV_some, mV_some, bO_next, bO_ret, fin_next, fin_ret, mO_some, mB_some, mN_some, asB_bool, bB_last, bB_andF, bB_andT, bB_orT, bB_orF, rv_cons_eq, rv_cons_ne, rv_put_eq, rv_put_ne, bL_put_eq, oA_obj, fldO_some, asB_map, asB_bind, look_cons_eq, look_cons_ne, field_cons_eq, field_cons_ne, look_put_ne, look_put_eq, iteT, iteF, lenV_tup, lenV_lst, bL_put_ne]
noncomputable abbrev GoesOn (σ2 σ3 : Sto) (a b c : Int) (k : Nat) (due : AV) : Prop := ∀ ρ', look 45 ρ' = some (.val (.obj 4)) → look 113 ρ' = some (.val due) → look 96 ρ' = some (.val (tur a b c k)) → restM ρ' σ2 = some (.ret (.bool true) σ3)
structure RL (ρ : Loc) (σ0 σ1 : Sto) (a b c : Int) (k : Nat) (w n : Int) (q : Nat) : Prop where
  h96 : look 96 ρ = some (.val (tur a b c k))
  h3 : look 3 ρ = some (.val (.int n))
  h105 : look 105 ρ = some (.val (.int w))
  h80 : look 80 ρ = some (.val (.obj 0))
  hU : n_law_unit [tur a b c k] σ0 = some (.obj 4, σ1)
  hE : n_unit_error [.obj 4, .int 3] σ1 = some (.none, σ1)
  hu : σ1[4]? = some (uO 1 2 3 0)
  hown : atI [.obj 1, .obj 2, .obj 3] n = some (.obj q)
variable {σ0 : Sto}
structure RW (ρ : Loc) (a b c : Int) (k : Nat) (w n : Int) (q : Nat) : Prop where
  h96 : look 96 ρ = some (.val (tur a b c k))
  r96 : ∀ σ, rv 96 ρ σ = some (tur a b c k, σ)
  r3 : ∀ σ, rv 3 ρ σ = some (.int n, σ)
  r105 : ∀ σ, rv 105 ρ σ = some (.int w, σ)
  r80 : ∀ σ, rv 80 ρ σ = some (.obj 0, σ)
  r28 : ∀ σ, rv 28 ρ σ = some (.obj q, σ)
  h45 : look 45 ρ = some (.val (.obj 4))
theorem restL_pre {X : Option Out} (H : RL ρ σ0 σ1 a b c k w n q) (go : ∀ ρ', RW ρ' a b c k w n q → wayL ρ' σ1 = X) : restL ρ σ0 = X := by
  have r96 := rv_of H.h96
  have r3 := rv_of H.h3
  have hU := H.hU
  have hE := H.hE
  have hu := H.hu
  have hown := H.hown
  unfold restL
  simp [r96, r3, hU, hE, hu, uO, hown, subV_lst, bV_some, mV_some, bO_next, bO_ret, fin_next, fin_ret, mO_some, mB_some, mN_some, asB_bool, bB_last, bB_andF, bB_andT, bB_orT, bB_orF, rv_cons_eq, rv_cons_ne, rv_put_eq, rv_put_ne, bL_put_eq, oA_obj, fldO_some, asB_map, asB_bind, look_cons_eq, look_cons_ne, field_cons_eq, field_cons_ne, look_put_ne, look_put_eq, iteT, iteF, lenV_tup, lenV_lst, bL_put_ne]
  have t : ∀ {j : Nat} {v : LV}, look j ρ = some v → (45 = j → False) → (28 = j → False) → look j (put 28 (.val (.obj q)) (put 45 (.val (.obj 4)) ρ)) = some v := fun h n1 n2 => by rw [look_put_ne n2, look_put_ne n1]; exact h
  exact go _ ⟨t H.h96 (by decide) (by decide), rv_of (t H.h96 (by decide) (by decide)), rv_of (t H.h3 (by decide) (by decide)), rv_of (t H.h105 (by decide) (by decide)), rv_of (t H.h80 (by decide) (by decide)), rv_of look_put_eq, by rw [look_put_ne (by decide)]; exact look_put_eq⟩
theorem GoesOn.at {ρ : Loc} (hM : GoesOn σ2 σ3 a b c k due) (W : RW ρ a b c k w n q) : restM (put 113 (.val due) ρ) σ2 = some (.ret (.bool true) σ3) :=
  hM _ (by rw [look_put_ne (by decide)]; exact W.h45) look_put_eq (by rw [look_put_ne (by decide)]; exact W.h96)
theorem restL_hd (H : RL ρ σ0 σ1 a b c k w n q) (hw : w < 4) (hH : n_law_headed [.obj 4, .int w, .int n] σ1 = some (due, σ2)) (hM : GoesOn σ2 σ3 a b c k due) : restL ρ σ0 = some (.ret (.bool true) σ3) := by
  refine restL_pre H fun ρ W => ?_
  have c4 : cmpV .lt (.int w) (.int 4) = some true := by show some (decide (w < 4)) = _; rw [decide_eq_true hw]
  have c5 : cmpV .lt (.int w) (.int 5) = some true := by show some (decide (w < 5)) = _; rw [decide_eq_true (by omega)]
  unfold wayL
  simp only [rv_of W.h45, W.r3, W.r105, c4, c5, hH, bV_some, mV_some, bO_next, mB_some, mO_some, asB_bool, Option.bind_some, if_true, if_false, Bool.false_eq_true]
  exact hM.at W
theorem restL_st {σ1' : Sto} (H : RL ρ σ0 σ1 a b c k 4 n q) (hD : n_law_dip [.obj 0, .int 3] σ1 = some (.int r, σ1')) (hH : n_law_headed [.obj 4, .int 4, .int r] σ1' = some (due, σ2)) (hM : GoesOn σ2 σ3 a b c k due) : restL ρ σ0 = some (.ret (.bool true) σ3) := by
  refine restL_pre H fun ρ W => ?_
  have c4 : cmpV .lt (.int 4) (.int 4) = some false := rfl
  have c5 : cmpV .lt (.int 4) (.int 5) = some true := rfl
  unfold wayL
  simp only [rv_of W.h45, W.r105, W.r80, c4, c5, hD, hH, bV_some, mV_some, bO_next, mB_some, mO_some, asB_bool, Option.bind_some, if_true, if_false, Bool.false_eq_true]
  exact hM.at W
theorem restL_op (H : RL ρ σ0 σ1 a b c k w n q) (hw : 5 ≤ w ∧ w < 20) (hH : n_law_operand [.obj q, tur a b c k, .int (w - 5), .int n] σ1 = some (due, σ2)) (hM : GoesOn σ2 σ3 a b c k due) : restL ρ σ0 = some (.ret (.bool true) σ3) := by
  refine restL_pre H fun ρ W => ?_
  have c5 : cmpV .lt (.int w) (.int 5) = some false := by show some (decide (w < 5)) = _; rw [decide_eq_false (by omega)]
  have c20 : cmpV .lt (.int w) (.int 20) = some true := by show some (decide (w < 20)) = _; rw [decide_eq_true hw.2]
  unfold wayL
  simp only [W.r28, W.r96, W.r3, W.r105, c20, c5, sub_int, hH, bV_some, mV_some, bO_next, mB_some, mO_some, asB_bool, Option.bind_some, if_true, if_false, Bool.false_eq_true]
  exact hM.at W
theorem restL_ea (H : RL ρ σ0 σ1 a b c k w n q) (hw : 20 ≤ w) (hH : n_law_early [.obj q, tur a b c k, .int (w - 20), .int n] σ1 = some (due, σ2)) (hM : GoesOn σ2 σ3 a b c k due) : restL ρ σ0 = some (.ret (.bool true) σ3) := by
  refine restL_pre H fun ρ W => ?_
  have c5 : cmpV .lt (.int w) (.int 5) = some false := by show some (decide (w < 5)) = _; rw [decide_eq_false (by omega)]
  have c20 : cmpV .lt (.int w) (.int 20) = some false := by show some (decide (w < 20)) = _; rw [decide_eq_false (by omega)]
  unfold wayL
  simp only [W.r28, W.r96, W.r3, W.r105, c20, c5, sub_int, hH, bV_some, mV_some, bO_next, mB_some, mO_some, asB_bool, Option.bind_some, if_true, if_false, Bool.false_eq_true]
  exact hM.at W
end
theorem mod_int {v m : Int} (h0 : 0 < m) (hm : small m = true) : binV .mod (.int v) (.int m) = some (.int (Int.fmod v m)) := by
  show (if (decide (0 < m) && small m) = true then some (Int.fmod v m) else none : Option Int).map AV.int = _
  rw [if_pos (by rw [hm, decide_eq_true h0]; rfl)]; rfl
theorem fdiv_int {v m : Int} (h0 : 0 < m) (hv : small v = true) (hm : small m = true) : binV .fdiv (.int v) (.int m) = some (.int (Int.fdiv v m)) := by
  show (if (decide (0 < m) && small v && small m) = true then some (Int.fdiv v m) else none : Option Int).map AV.int = _
  rw [if_pos (by rw [hm, hv, decide_eq_true h0]; rfl)]; rfl
theorem bO_to {m : Option Out} {k : Loc → Sto → Option Out} {ρ : Loc} {σ : Sto} (h : m = some (.next ρ σ)) : bO m k = k ρ σ := by rw [h]; rfl
noncomputable def loc0 (S : AV) (d1 n : Int) (f : Nat) : Loc := [(78, .val S), (80, .val (.obj 0)), (105, .val (.int d1)), (3, .val (.int n)), (111, .val (.int (f : Int)))]
noncomputable def loc1 (S : AV) (d1 n : Int) (f : Nat) : Loc := loc0 S d1 n f ++ [(112, .val (.lst (if f % 3 = 0 then [.int 4, .int 5] else if f % 3 = 1 then [.int 3, .int 5] else [.int 3, .int 4])))]
noncomputable def loc2 (S : AV) (d1 n : Int) (f : Nat) : Loc := loc1 S d1 n f ++ [(95, .val (.dct [.int 3, .int 4, .int 5] [.int (perm f).1, .int (perm f).2.1, .int (perm f).2.2]))]
theorem step112 {S : AV} {d1 n : Int} {σ : Sto} : ∀ f, f < 6 → m112 (loc0 S d1 n f) σ = some (.next (loc1 S d1 n f) σ)
  | 0, _ => rfl | 1, _ => rfl | 2, _ => rfl | 3, _ => rfl | 4, _ => rfl | 5, _ => rfl
theorem step95 {S : AV} {d1 n : Int} {σ : Sto} : ∀ f, f < 6 → m95 (loc1 S d1 n f) σ = some (.next (loc2 S d1 n f) σ)
  | 0, _ => rfl | 1, _ => rfl | 2, _ => rfl | 3, _ => rfl | 4, _ => rfl | 5, _ => rfl
theorem head_ok {S : AV} {p0 p1 p2 p3 p4 : AO} {d1 d2 : Int} {f k : Nat} {σ3 : Sto} (hf : f < 6) (hpot : n_law_pot [S] [] = some (.obj 0, [p0])) (hd1 : n_law_dip [.obj 0, .int 23] [p0] = some (.int d1, [p1])) (hd2 : n_law_dip [.obj 0, .int 2] [p1] = some (.int d2, [p2]))
    (hd3 : n_law_dip [.obj 0, .int 6] [p2] = some (.int (f : Int), [p3])) (hd4 : n_law_dip [.obj 0, .int 9] [p3] = some (.int (k : Int), [p4]))
    (hL : ∀ ρ, look 96 ρ = some (.val (tur (perm f).1 (perm f).2.1 (perm f).2.2 k)) → look 3 ρ = some (.val (.int (1 + d2))) → look 105 ρ = some (.val (.int d1)) → look 80 ρ = some (.val (.obj 0)) → restL ρ [p4] = some (.ret (.bool true) σ3)) : n_law [S] [] = some (.bool true, σ3) := by
  rw [n_law_eq]
  simp only [p_law, bindAll, Option.map_some, Option.bind_some]
  have goal : headL [(78, .val S)] [] = some (.ret (.bool true) σ3) := by
    unfold headL
    simp only [hpot, hd1, hd2, hd3, add_int, oU, putAll, Option.map_some, bV_some, mV_some, bO_next, bO_ret, fin_next, fin_ret, mO_some, mB_some, mN_some, asB_bool, bB_last, bB_andF, bB_andT, bB_orT, bB_orF, rv_cons_eq, rv_cons_ne, rv_put_eq, rv_put_ne, bL_put_eq, oA_obj, fldO_some, asB_map, asB_bind, look_cons_eq, look_cons_ne, field_cons_eq, field_cons_ne, look_put_ne, look_put_eq, iteT, iteF, lenV_tup, lenV_lst, bL_put_ne]
    refine (bO_to (step112 f hf)).trans ((bO_to (step95 f hf)).trans ?_)
    have r95 : rv 95 (loc2 S d1 (1 + d2) f) [p3] = some (.dct [.int 3, .int 4, .int 5] [.int (perm f).1, .int (perm f).2.1, .int (perm f).2.2], [p3]) := rfl
    have r80 : rv 80 (loc2 S d1 (1 + d2) f) [p3] = some (.obj 0, [p3]) := rfl
    have e : m96 (loc2 S d1 (1 + d2) f) [p3] = some (.next (put 96 (.val (tur (perm f).1 (perm f).2.1 (perm f).2.2 k)) (loc2 S d1 (1 + d2) f)) [p4]) := by
      unfold m96
      simp only [r95, r80, bV_some, mV_some, hd4]
      rfl
    refine (bO_to e).trans (hL _ look_put_eq ?_ ?_ ?_) <;> exact (look_put_ne (by decide)).trans rfl
  rw [goal]; rfl
end Mine
/-! part OE -/
namespace Mine
open PySem

theorem small_of {x : Int} (h : -1000000000000 < x) (h2 : x < 1000000000000) : small x = true := by
  unfold small lim
  rw [decide_eq_true h, decide_eq_true h2]; rfl
theorem sum_bound : ∀ ns : List Int, 0 ≤ (ns.map fun v => Int.fmod v 1009).sum ∧ (ns.map fun v => Int.fmod v 1009).sum ≤ 1009 * ns.length
  | [] => by simp
  | v :: r => by
    have ih := sum_bound r
    have h1 : 0 ≤ Int.fmod v 1009 := Int.fmod_nonneg_of_pos v (by decide)
    have h2 : Int.fmod v 1009 < 1009 := Int.fmod_lt_of_pos v (by decide)
    simp only [List.map_cons, List.sum_cons, List.length_cons]
    omega
noncomputable def potO (S : AV) (i s : Int) : AO := .mlst [S, .int i, .int s]
theorem pot_ok (ns : List Int) (hn : ns.length ≤ 63) : ∃ s, 0 ≤ s ∧ s ≤ 100000 ∧ n_law_pot [.lst (ns.map .int)] [] = some (.obj 0, [potO (.lst (ns.map .int)) 0 s]) := by
  have hb := sum_bound ns
  refine ⟨(ns.map fun v => Int.fmod v 1009).sum + 3, by omega, by omega, ?_⟩
  have ff : fits (ns.map AV.int) = true := fits_of (by rw [List.length_map]; omega)
  have htk : (ns.map AV.int).take 63 = ns.map AV.int := List.take_of_length_le (by rw [List.length_map]; exact hn)
  have hsl : oSl (.lst (ns.map .int)) none (some (.int 63)) [] = some (ns.map .int, []) := by
    show (if fits (ns.map AV.int) = true then (cutL (ns.map .int) none (some (.int 63))).map fun r => (r, []) else none) = _
    rw [if_pos ff]
    show Option.map _ (some ((ns.map AV.int).take 63)) = _
    rw [htk]; rfl
  have hli : oLi (.lst (ns.map .int)) [] = some (ns.map .int, []) := by
    show (if fits (ns.map AV.int) = true then some (ns.map AV.int, []) else none) = _
    rw [if_pos ff]
  have hc : ∀ ρ : Loc, oC 43 ρ (fun (_ : Loc) (σ : Sto) => some (true, σ)) (fun ρ σ => bV (bV (rv 43 ρ σ) fun v σ => mO (toIntV v) σ) fun u σ => mO (binV BO.mod u (.int 1009)) σ) (.lst (ns.map .int)) [] = some (ns.map fun v => AV.int (Int.fmod v 1009), []) := fun ρ =>
    oC_mapE (enc := AV.int) rfl (by omega) (fun _ _ => rfl) fun v _ => by
      have ht : toIntV (.int v) = some (.int v) := rfl
      have hm := mod_int (v := v) (m := 1009) (by decide) (by decide)
      simp only [rv_put_eq, ht, hm, bV_some, mV_some, bO_next, bO_ret, fin_next, fin_ret, mO_some, mB_some, mN_some, asB_bool, bB_last, bB_andF, bB_andT, bB_orT, bB_orF, rv_cons_eq, rv_cons_ne, rv_put_eq, rv_put_ne, bL_put_eq, oA_obj, fldO_some, asB_map, asB_bind, look_cons_eq, look_cons_ne, field_cons_eq, field_cons_ne, look_put_ne, look_put_eq, iteT, iteF, lenV_tup, lenV_lst, bL_put_ne]
  have hs : sumV (.lst (ns.map fun v => AV.int (Int.fmod v 1009))) = some (.int (ns.map fun v => Int.fmod v 1009).sum) := by
    show (intL _).map _ = _
    rw [intL_map]; rfl
  unfold n_law_pot s_law_pot
  simp only [p_law_pot, bindAll, Option.map_some, Option.bind_some]
  simp only [rv_cons_eq, bV_some, mV_some, bO_next, bO_ret, fin_next, fin_ret, mO_some, mB_some, mN_some, asB_bool, bB_last, bB_andF, bB_andT, bB_orT, bB_orF, rv_cons_eq, rv_cons_ne, rv_put_eq, rv_put_ne, bL_put_eq, oA_obj, fldO_some, asB_map, asB_bind, look_cons_eq, look_cons_ne, field_cons_eq, field_cons_ne, look_put_ne, look_put_eq, iteT, iteF, lenV_tup, lenV_lst, bL_put_ne]
  simp only [hsl, hli, bV_some, mV_some, bO_next, bO_ret, fin_next, fin_ret, mO_some, mB_some, mN_some, asB_bool, bB_last, bB_andF, bB_andT, bB_orT, bB_orF, rv_cons_eq, rv_cons_ne, rv_put_eq, rv_put_ne, bL_put_eq, oA_obj, fldO_some, asB_map, asB_bind, look_cons_eq, look_cons_ne, field_cons_eq, field_cons_ne, look_put_ne, look_put_eq, iteT, iteF, lenV_tup, lenV_lst, bL_put_ne]
  simp only [hc, hs, add_int, bV_some, mV_some, bO_next, bO_ret, fin_next, fin_ret, mO_some, mB_some, mN_some, asB_bool, bB_last, bB_andF, bB_andT, bB_orT, bB_orF, rv_cons_eq, rv_cons_ne, rv_put_eq, rv_put_ne, bL_put_eq, oA_obj, fldO_some, asB_map, asB_bind, look_cons_eq, look_cons_ne, field_cons_eq, field_cons_ne, look_put_ne, look_put_eq, iteT, iteF, lenV_tup, lenV_lst, bL_put_ne]
  rfl
theorem dip_ok {ns : List Int} (hn : ns.length ≤ 63) {i s m : Int} {rest : Sto} (hi : 0 ≤ i ∧ i ≤ 100) (hs : 0 ≤ s ∧ s ≤ 100000) (hm : 0 < m ∧ m ≤ 1000) :
    ∃ r s', 0 ≤ r ∧ r < m ∧ 0 ≤ s' ∧ s' ≤ 100000 ∧ n_law_dip [.obj 0, .int m] (potO (.lst (ns.map .int)) i s :: rest) = some (.int r, potO (.lst (ns.map .int)) (i + 1) s' :: rest) := by
  have ff : fits (ns.map AV.int) = true := fits_of (by rw [List.length_map]; omega)
  have hg : ∀ (i s : Int), (potO (.lst (ns.map .int)) i s :: rest)[0]? = some (.mlst [.lst (ns.map .int), .int i, .int s]) := fun _ _ => rfl
  have s0 : ∀ i s : Int, subV (potO (.lst (ns.map .int)) i s :: rest) (.obj 0) (.int 0) = some (.lst (ns.map .int)) := fun _ _ => rfl
  have s1 : ∀ i s : Int, subV (potO (.lst (ns.map .int)) i s :: rest) (.obj 0) (.int 1) = some (.int i) := fun _ _ => rfl
  have s2 : ∀ i s : Int, subV (potO (.lst (ns.map .int)) i s :: rest) (.obj 0) (.int 2) = some (.int s) := fun _ _ => rfl
  have m1 : ∀ (ρ : Loc) (i j s : Int), oSM ρ (.int j) (.obj 0) (.int 1) (potO (.lst (ns.map .int)) i s :: rest) = some (.next ρ (potO (.lst (ns.map .int)) j s :: rest)) := fun _ _ _ _ => rfl
  have m2 : ∀ (ρ : Loc) (i j s : Int), oSM ρ (.int j) (.obj 0) (.int 2) (potO (.lst (ns.map .int)) i s :: rest) = some (.next ρ (potO (.lst (ns.map .int)) i j :: rest)) := fun _ _ _ _ => rfl
  have ln := lenV_lst ff
  rw [List.length_map] at ln
  have sm : small m = true := small_of (by omega) (by omega)
  have clt : cmpV .lt (.int i) (.int (ns.length : Int)) = some (decide (i < (ns.length : Int))) := rfl
  by_cases h : i < (ns.length : Int)
  · have hlt : i.toNat < ns.length := by omega
    have hat : atI (ns.map .int) i = some (.int ns[i.toNat]) := atI_map hi.1 (List.getElem?_eq_getElem hlt) (by omega)
    refine ⟨Int.fmod ns[i.toNat] m, s, Int.fmod_nonneg_of_pos _ hm.1, Int.fmod_lt_of_pos _ hm.1, hs.1, hs.2, ?_⟩
    have hmd := mod_int (v := ns[i.toNat]) hm.1 sm
    have cd : decide (i < (ns.length : Int)) = true := decide_eq_true h
    unfold n_law_dip s_law_dip
    simp only [p_law_dip, bindAll, Option.map_some, Option.bind_some]
    simp [s0, s1, m1, ln, clt, cd, subV_lst, hat, hmd, add_int, bV_some, mV_some, bO_next, bO_ret, fin_next, fin_ret, mO_some, mB_some, mN_some, asB_bool, bB_last, bB_andF, bB_andT, bB_orT, bB_orF, rv_cons_eq, rv_cons_ne, rv_put_eq, rv_put_ne, bL_put_eq, oA_obj, fldO_some, asB_map, asB_bind, look_cons_eq, look_cons_ne, field_cons_eq, field_cons_ne, look_put_ne, look_put_eq, iteT, iteF, lenV_tup, lenV_lst, bL_put_ne]
  · have hmul : binV .mul (.int s) (.int 75) = some (.int (s * 75)) := by
      show (if (small s && small 75) = true then some (s * 75) else none : Option Int).map AV.int = _
      rw [if_pos (by rw [small_of (x := s) (by omega) (by omega)]; rfl)]; rfl
    have hm2 := mod_int (v := s * 75 + 74) (m := 65537) (by decide) (by decide)
    have b1 : 0 ≤ Int.fmod (s * 75 + 74) 65537 := Int.fmod_nonneg_of_pos _ (by decide)
    have b2 : Int.fmod (s * 75 + 74) 65537 < 65537 := Int.fmod_lt_of_pos _ (by decide)
    generalize Int.fmod (s * 75 + 74) 65537 = t at hm2 b1 b2
    refine ⟨Int.fmod t m, t, Int.fmod_nonneg_of_pos _ hm.1, Int.fmod_lt_of_pos _ hm.1, b1, by omega, ?_⟩
    have hmd := mod_int (v := t) hm.1 sm
    have cd : decide (i < (ns.length : Int)) = false := decide_eq_false h
    unfold n_law_dip s_law_dip
    simp only [p_law_dip, bindAll, Option.map_some, Option.bind_some]
    simp [s0, s1, s2, m1, m2, ln, clt, cd, hmul, hm2, hmd, add_int, bV_some, mV_some, bO_next, bO_ret, fin_next, fin_ret, mO_some, mB_some, mN_some, asB_bool, bB_last, bB_andF, bB_andT, bB_orT, bB_orF, rv_cons_eq, rv_cons_ne, rv_put_eq, rv_put_ne, bL_put_eq, oA_obj, fldO_some, asB_map, asB_bind, look_cons_eq, look_cons_ne, field_cons_eq, field_cons_ne, look_put_ne, look_put_eq, iteT, iteF, lenV_tup, lenV_lst, bL_put_ne]
end Mine
/-! part OF -/
namespace Mine
open PySem

theorem due_eq (x i : Int) (w : Nat) : cmpV .eq (.tup [.int x, .int i, .str w]) (.tup [.int x, .int i, .str w]) = some true := by
  rw [show cmpV .eq (.tup [.int x, .int i, .str w]) (.tup [.int x, .int i, .str w]) = some (decide (x = x) && (decide (i = i) && (decide (w = w) && true))) from rfl, decide_eq_true rfl, decide_eq_true rfl, decide_eq_true rfl]; rfl
theorem map_at {α β γ : Type} {A : List α} {B : List β} {F : α → γ} {G : β → γ} (h : A.map F = B.map G) {j : Nat} {x : α} {y : β} (hx : A[j]? = some x) (hy : B[j]? = some y) : F x = G y := by
  have := congrArg (·[j]?) h
  simp only [List.getElem?_map, hx, hy, Option.map_some] at this
  exact Option.some.inj this
theorem wsA_at : ∀ j : Nat, j < 15 → wsA[j]? = some (j : Int) := by decide
theorem ws3_at : ∀ j : Nat, j < 3 → ([0, 1, 2] : List Int)[j]? = some (j : Int) := by decide
section
variable {a b c : Int} {k : Nat} {o0 o1 o2 o3 o4 : AO}
/-- the last two steps, when the first answer is as due -/
theorem on_ok {due : AV} (hk : k ≤ 8) (ck : chkA a b c k = true) (hE2 : n_unit_error [.obj 4, .int 3] [o0, o1, o2, o3, o4] = some (due, [o0, o1, o2, o3, o4])) (hq : cmpV .eq due due = some true) :
    GoesOn [o0, o1, o2, o3, o4] (unitT [o0, o1, o2, o3, o4] 5 a b c k) a b c k due := by
  simp only [chkA, Bool.and_eq_true] at ck
  intro ρ' h45 h113 h96
  refine restM_ok h45 h113 h96 hE2 hq (vk_all k hk) ?_
  exact ue_none (a := 5) (b := 6) (d := 7) (P1 := P1T (L1 a b c k)) (P2 := P2T (L2 a b c k)) rfl rfl rfl rfl rfl ck.1.1.1.1.1 ck.1.1.1.1.2
end
theorem nat_lt {d : Int} {m : Nat} (h0 : 0 ≤ d) (h : d < m) : ∃ f : Nat, d = (f : Int) ∧ f < m := ⟨d.toNat, by omega, by omega⟩
theorem n4 : ∀ n : Nat, n < 4 → n = 0 ∨ n = 1 ∨ n = 2 ∨ n = 3
  | 0, _ => .inl rfl
  | 1, _ => .inr (.inl rfl)
  | 2, _ => .inr (.inr (.inl rfl))
  | 3, _ => .inr (.inr (.inr rfl))
  | n + 4, h => absurd h (Nat.not_lt_of_le (Nat.le_add_left 4 n))
theorem w_of {d : Int} (h0 : 0 ≤ d) (h : d < 4) : ∃ w : Nat, d = (w : Int) ∧ (w = 0 ∨ w = 1 ∨ w = 2 ∨ w = 3) := by
  obtain ⟨w, rfl, hw⟩ := nat_lt (m := 4) h0 h
  exact ⟨w, rfl, n4 w hw⟩
theorem lt15 {d : Int} (h : d < 20) : (d - 5).toNat < 15 := by omega
theorem sub5 {d : Int} (h4 : ¬d = 4) (h : ¬d < 4) : ((d - 5).toNat : Int) = d - 5 := by omega
theorem ge5 {d : Int} (h4 : ¬d = 4) (h : ¬d < 4) : 5 ≤ d := by omega
theorem lt3 {d : Int} (h : d < 23) : (d - 20).toNat < 3 := by omega
theorem sub20 {d : Int} (h : ¬d < 20) : ((d - 20).toNat : Int) = d - 20 := by omega
theorem c2 {d : Int} (h0 : 0 ≤ d) (h : d < 2) : d = 0 ∨ d = 1 := by
  obtain ⟨w, rfl, hw⟩ := nat_lt (m := 2) h0 h
  match w, hw with
  | 0, _ => exact .inl rfl
  | 1, _ => exact .inr rfl
theorem c3 {d : Int} (h0 : 0 ≤ d) (h : d < 3) : d = 0 ∨ d = 1 ∨ d = 2 := by
  obtain ⟨w, rfl, hw⟩ := nat_lt (m := 3) h0 h
  match w, hw with
  | 0, _ => exact .inl rfl
  | 1, _ => exact .inr (.inl rfl)
  | 2, _ => exact .inr (.inr rfl)
theorem w_mem {w : Nat} (h : w = 0 ∨ w = 1 ∨ w = 2 ∨ w = 3) : w ∈ [0, 1, 2, 3] := by rcases h with rfl | rfl | rfl | rfl <;> decide
noncomputable def Good (l : AV) : Prop := ∃ σ', n_law [l] [] = some (.bool true, σ')
noncomputable abbrev Fit (ρ : Loc) (d1 d2 a b c : Int) (k : Nat) : Prop := look 96 ρ = some (.val (tur a b c k)) ∧ look 3 ρ = some (.val (.int (1 + d2))) ∧ look 105 ρ = some (.val (.int d1)) ∧ look 80 ρ = some (.val (.obj 0))
structure Run (S : AV) (d1 d2 : Int) (p4 : AO) (a b c : Int) (k : Nat) : Prop where
  hk : k ≤ 8
  ck : chkA a b c k = true
  run : ∀ (σ3 : Sto), (∀ ρ, look 96 ρ = some (.val (tur a b c k)) → look 3 ρ = some (.val (.int (1 + d2))) → look 105 ρ = some (.val (.int d1)) → look 80 ρ = some (.val (.obj 0)) → restL ρ [p4] = some (.ret (.bool true) σ3)) → Good S
structure Chk (a b c : Int) (k : Nat) : Prop where
  c1 : okNone 1 (P1T (L1 a b c k)) = true
  c2 : okNone 2 (P2T (L2 a b c k)) = true
  cop : ∀ t ∈ (altT a b c k), okErr 1 (P1T ((L1 a b c k).set (t.1 + k) t.2.1)) ((t.1 + k : Nat) : Int) t.2.2 = true ∧ okErr 2 (P2T ((L2 a b c k).set (t.1 + k) t.2.1)) ((t.1 + k : Nat) : Int) t.2.2 = true
  ce1 : ∀ t ∈ (earT a b c k (L1 a b c k)), okErr 1 (P1T t.2) ((t.1 : Nat) : Int) 73 = true
  ce2 : ∀ t ∈ (earT a b c k (L2 a b c k)), okErr 2 (P2T t.2) ((t.1 : Nat) : Int) 73 = true
  chd : ∀ w ∈ ([0, 1, 2, 3] : List Nat), okErr 1 (hdV (P1T (L1 a b c k)) w) (-1) (hdW w) = true ∧ okErr 2 (hdV (P2T (L2 a b c k)) w) (-1) (hdW w) = true
section
variable {S : AV} {d1 d2 : Int} {p4 : AO} {a b c : Int} {k : Nat}
theorem Run.chk (R : Run S d1 d2 p4 a b c k) : Chk a b c k := by
  have ck := R.ck
  simp only [chkA, Bool.and_eq_true, List.all_eq_true] at ck
  obtain ⟨⟨⟨⟨⟨c1, c2⟩, cop⟩, ce1⟩, ce2⟩, chd⟩ := ck
  exact ⟨c1, c2, cop, ce1, ce2, chd⟩
theorem Run.rl (R : Run S d1 d2 p4 a b c k) (w n : Int) (q : Nat) (ρ : Loc) (hq : atI [.obj 1, .obj 2, .obj 3] n = some (.obj q)) (h96 : look 96 ρ = some (.val (tur a b c k))) (h3 : look 3 ρ = some (.val (.int n))) (h105 : look 105 ρ = some (.val (.int w))) (h80 : look 80 ρ = some (.val (.obj 0))) : RL ρ [p4] (unitT [p4] 1 a b c k) a b c k w n q :=
  ⟨h96, h3, h105, h80, uk_all k R.hk, ue_none (a := 1) (b := 2) (d := 3) (P1 := P1T (L1 a b c k)) (P2 := P2T (L2 a b c k)) rfl rfl rfl rfl rfl R.chk.c1 R.chk.c2, rfl, hq⟩
theorem law_st (R : Run S 4 d2 p4 a b c k) {q : Nat} (hq2 : atI [.obj 1, .obj 2, .obj 3] (1 + d2) = some (.obj q)) {r : Int} {p5 : AO} (a5 : 0 ≤ r) (b5 : r < 3) (hd5 : n_law_dip [.obj 0, .int 3] (unitT [p4] 1 a b c k) = some (.int r, [p5, prO P0T, prO (P1T (L1 a b c k)), prO (P2T (L2 a b c k)), uO 1 2 3 0])) : Good S := by
  obtain rfl | rfl | rfl := c3 a5 b5
  · exact R.run _ fun ρ h96 h3 h105 h80 => restL_st (R.rl 4 (1 + d2) q ρ hq2 h96 h3 h105 h80) hd5 hs_0 (on_ok R.hk R.ck (ue_start_out (a := 1) (b := 2) (d := 3) (s := 3) rfl rfl) (due_eq _ _ _))
  · exact R.run _ fun ρ h96 h3 h105 h80 => restL_st (R.rl 4 (1 + d2) q ρ hq2 h96 h3 h105 h80) hd5 hs_1 (on_ok R.hk R.ck (ue_start_one (a := 1) (b := 2) (d := 3) (P1 := P1T (L1 a b c k)) rfl rfl rfl) (due_eq _ _ _))
  · exact R.run _ fun ρ h96 h3 h105 h80 => restL_st (R.rl 4 (1 + d2) q ρ hq2 h96 h3 h105 h80) hd5 hs_2 (on_ok R.hk R.ck (ue_start_out (a := 1) (b := 2) (d := 3) (s := -1) rfl rfl) (due_eq _ _ _))
theorem law_one (R : Run S d1 0 p4 a b c k) (h0 : 0 ≤ d1) (h23 : d1 < 23) (w4 : ¬d1 = 4) : Good S := by
  by_cases w5 : d1 < 4
  · have hw : ∃ w : Nat, d1 = (w : Int) ∧ (w = 0 ∨ w = 1 ∨ w = 2 ∨ w = 3) := w_of h0 w5
    obtain ⟨w, rfl, hw⟩ := hw
    have hH : n_law_headed [.obj 4, .int (w : Int), .int (1 + 0)] (unitT [p4] 1 a b c k) = some (.tup [.int 1, .int (-1), .str (hdW w)], [p4, prO P0T, prO (hdV (P1T (L1 a b c k)) w), prO (P2T (L2 a b c k)), uO 1 2 3 0]) := by
      rcases hw with rfl | rfl | rfl | rfl
      · exact h1_0
      · exact h1_1
      · exact h1_2
      · exact h1_3
    have hfr : (hdV (P1T (L1 a b c k)) w).fr = 2 := by rcases hw with rfl | rfl | rfl | rfl <;> rfl
    have hck := R.chk.chd w (w_mem hw)
    exact R.run _ fun ρ h96 h3 h105 h80 => restL_hd (R.rl _ (1 + 0) 2 ρ rfl h96 h3 h105 h80) w5 hH (on_ok R.hk R.ck (ue_one (a := 1) (b := 2) (d := 3) (P1 := hdV (P1T (L1 a b c k)) w) rfl rfl rfl hfr hck.1) (due_eq _ _ _))
  · by_cases w20 : d1 < 20
    · have hj : (d1 - 5).toNat < 15 := lt15 w20
      have e1 : ((d1 - 5).toNat : Int) = d1 - 5 := sub5 w4 w5
      have hx := wsA_at _ hj
      rw [e1] at hx
      have hlt : (d1 - 5).toNat < (altT a b c k).length := hj
      have hy := List.getElem?_eq_getElem hlt
      have hm := List.getElem_mem hlt
      generalize (altT a b c k)[(d1 - 5).toNat] = t at hy hm
      have hH := map_at (op1_all (o0 := p4) (x0 := prO P0T) (x2 := prO (P2T (L2 a b c k))) (x3 := uO 1 2 3 0) k R.hk) hx hy
      exact R.run _ fun ρ h96 h3 h105 h80 => restL_op (R.rl _ (1 + 0) 2 ρ rfl h96 h3 h105 h80) ⟨ge5 w4 w5, w20⟩ hH (on_ok R.hk R.ck (ue_one (a := 1) (b := 2) (d := 3) (P1 := P1T ((L1 a b c k).set (t.1 + k) t.2.1)) rfl rfl rfl rfl (R.chk.cop t hm).1) (due_eq _ _ _))
    · have hj : (d1 - 20).toNat < 3 := lt3 h23
      have e1 : ((d1 - 20).toNat : Int) = d1 - 20 := sub20 w20
      have hx := ws3_at _ hj
      rw [e1] at hx
      have hlt : (d1 - 20).toNat < (earT a b c k (L1 a b c k)).length := hj
      have hy := List.getElem?_eq_getElem hlt
      have hm := List.getElem_mem hlt
      generalize (earT a b c k (L1 a b c k))[(d1 - 20).toNat] = t at hy hm
      have hH := map_at (ea1_all (o0 := p4) (x0 := prO P0T) (x2 := prO (P2T (L2 a b c k))) (x3 := uO 1 2 3 0) k R.hk) hx hy
      exact R.run _ fun ρ h96 h3 h105 h80 => restL_ea (R.rl _ (1 + 0) 2 ρ rfl h96 h3 h105 h80) (Int.not_lt.mp w20) hH (on_ok R.hk R.ck (ue_one (a := 1) (b := 2) (d := 3) (P1 := P1T t.2) rfl rfl rfl rfl (R.chk.ce1 t hm)) (due_eq _ _ _))
theorem law_two (R : Run S d1 1 p4 a b c k) (h0 : 0 ≤ d1) (h23 : d1 < 23) (w4 : ¬d1 = 4) : Good S := by
  by_cases w5 : d1 < 4
  · have hw : ∃ w : Nat, d1 = (w : Int) ∧ (w = 0 ∨ w = 1 ∨ w = 2 ∨ w = 3) := w_of h0 w5
    obtain ⟨w, rfl, hw⟩ := hw
    have hH : n_law_headed [.obj 4, .int (w : Int), .int (1 + 1)] (unitT [p4] 1 a b c k) = some (.tup [.int 2, .int (-1), .str (hdW w)], [p4, prO P0T, prO (P1T (L1 a b c k)), prO (hdV (P2T (L2 a b c k)) w), uO 1 2 3 0]) := by
      rcases hw with rfl | rfl | rfl | rfl
      · exact h2_0
      · exact h2_1
      · exact h2_2
      · exact h2_3
    have hck := R.chk.chd w (w_mem hw)
    exact R.run _ fun ρ h96 h3 h105 h80 => restL_hd (R.rl _ (1 + 1) 3 ρ rfl h96 h3 h105 h80) w5 hH (on_ok R.hk R.ck (ue_two (a := 1) (b := 2) (d := 3) (P1 := P1T (L1 a b c k)) (P2 := hdV (P2T (L2 a b c k)) w) rfl rfl rfl rfl rfl R.chk.c1 hck.2) (due_eq _ _ _))
  · by_cases w20 : d1 < 20
    · have hj : (d1 - 5).toNat < 15 := lt15 w20
      have e1 : ((d1 - 5).toNat : Int) = d1 - 5 := sub5 w4 w5
      have hx := wsA_at _ hj
      rw [e1] at hx
      have hlt : (d1 - 5).toNat < (altT a b c k).length := hj
      have hy := List.getElem?_eq_getElem hlt
      have hm := List.getElem_mem hlt
      generalize (altT a b c k)[(d1 - 5).toNat] = t at hy hm
      have hH := map_at (op2_all (o0 := p4) (x0 := prO P0T) (x1 := prO (P1T (L1 a b c k))) (x3 := uO 1 2 3 0) k R.hk) hx hy
      exact R.run _ fun ρ h96 h3 h105 h80 => restL_op (R.rl _ (1 + 1) 3 ρ rfl h96 h3 h105 h80) ⟨ge5 w4 w5, w20⟩ hH (on_ok R.hk R.ck (ue_two (a := 1) (b := 2) (d := 3) (P1 := P1T (L1 a b c k)) (P2 := P2T ((L2 a b c k).set (t.1 + k) t.2.1)) rfl rfl rfl rfl rfl R.chk.c1 (R.chk.cop t hm).2) (due_eq _ _ _))
    · have hj : (d1 - 20).toNat < 3 := lt3 h23
      have e1 : ((d1 - 20).toNat : Int) = d1 - 20 := sub20 w20
      have hx := ws3_at _ hj
      rw [e1] at hx
      have hlt : (d1 - 20).toNat < (earT a b c k (L2 a b c k)).length := hj
      have hy := List.getElem?_eq_getElem hlt
      have hm := List.getElem_mem hlt
      generalize (earT a b c k (L2 a b c k))[(d1 - 20).toNat] = t at hy hm
      have hH := map_at (ea2_all (o0 := p4) (x0 := prO P0T) (x1 := prO (P1T (L1 a b c k))) (x3 := uO 1 2 3 0) k R.hk) hx hy
      exact R.run _ fun ρ h96 h3 h105 h80 => restL_ea (R.rl _ (1 + 1) 3 ρ rfl h96 h3 h105 h80) (Int.not_lt.mp w20) hH (on_ok R.hk R.ck (ue_two (a := 1) (b := 2) (d := 3) (P1 := P1T (L1 a b c k)) (P2 := P2T t.2) rfl rfl rfl rfl rfl R.chk.c1 (R.chk.ce2 t hm)) (due_eq _ _ _))
end
theorem law_plain (ns : List Int) (hn : ns.length ≤ 63) : ∃ σ', n_law [.lst (ns.map .int)] [] = some (.bool true, σ') := by
  show Good _
  obtain ⟨s0, hs0, hs0', hpot⟩ := pot_ok ns hn
  obtain ⟨d1, s1, a1, b1, hs1, hs1', hd1⟩ := dip_ok hn (i := 0) (s := s0) (m := 23) (rest := []) (by decide) ⟨hs0, hs0'⟩ (by decide)
  obtain ⟨d2, s2, a2, b2, hs2, hs2', hd2⟩ := dip_ok hn (i := 0 + 1) (s := s1) (m := 2) (rest := []) (by decide) ⟨hs1, hs1'⟩ (by decide)
  obtain ⟨d3, s3, a3, b3, hs3, hs3', hd3⟩ := dip_ok hn (i := 0 + 1 + 1) (s := s2) (m := 6) (rest := []) (by decide) ⟨hs2, hs2'⟩ (by decide)
  obtain ⟨d4, s4, a4, b4, hs4, hs4', hd4⟩ := dip_ok hn (i := 0 + 1 + 1 + 1) (s := s3) (m := 9) (rest := []) (by decide) ⟨hs3, hs3'⟩ (by decide)
  obtain ⟨f, rfl, hf⟩ := nat_lt (m := 6) a3 b3
  obtain ⟨k, rfl, hk⟩ := nat_lt (m := 9) a4 b4
  have R : Run (.lst (ns.map .int)) d1 d2 (potO (.lst (ns.map .int)) (0 + 1 + 1 + 1 + 1) s4) (perm f).1 (perm f).2.1 (perm f).2.2 k := ⟨Nat.le_of_lt_succ hk, ck_all f k hf (Nat.le_of_lt_succ hk), fun σ3 hL => ⟨σ3, head_ok hf hpot hd1 hd2 hd3 hd4 hL⟩⟩
  by_cases w4 : d1 = 4
  · subst w4
    obtain ⟨r, s5, a5, b5, _, _, hd5⟩ := dip_ok hn (i := 0 + 1 + 1 + 1 + 1) (s := s4) (m := 3) (rest := [prO P0T, prO (P1T (L1 (perm f).1 (perm f).2.1 (perm f).2.2 k)), prO (P2T (L2 (perm f).1 (perm f).2.1 (perm f).2.2 k)), uO 1 2 3 0]) (by decide) ⟨hs4, hs4'⟩ (by decide)
    rcases c2 a2 b2 with rfl | rfl
    · exact law_st R (q := 2) rfl a5 b5 hd5
    · exact law_st R (q := 3) rfl a5 b5 hd5
  · rcases c2 a2 b2 with rfl | rfl
    · exact law_one R a1 b1 w4
    · exact law_two R a1 b1 w4
end Mine
theorem PySem.Challenge.cw_nz0403_01_holds : PySem.Challenge.rw_nz0403_01.Holds :=
  Mine.head fun ns hn => by
    obtain ⟨σ', h⟩ := Mine.law_plain ns hn
    exact ⟨σ', by rw [show Mine.cfD 20 Mine.k_law = Mine.n_law from Mine.e_law 10]; exact h⟩
