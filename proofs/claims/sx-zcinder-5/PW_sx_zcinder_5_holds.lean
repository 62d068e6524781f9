import PyProof.Rows.All
import Wide.All
import OpenK.AllK
import Wide.FinOn
import PyProof.CompFree
import PyProof.Rows.TupSub
import PyProof.P3Statements
import PyProof.ForAppend
import PyProof.Dict
import PyProof.Cells
import PyProof.DefCall
import PyProof.CompMap
import PyProof.P3In
import PyProof.NeData
import PyProof.Rows.SeqMore
import PyProof.Rows.ListMul
import PyProof.Rows.SumAny
import PyProof.Rows.RuleN_abs
import PyProof.TypeOfCall
import PyProof.CallStr
import PyProof.Rows.StrTemp
import PyProof.SliceList
import PyProof.Rows.RuleB_mod
import PyProof.Rows.RuleB_floordiv
import PyProof.Rows.StrRules
import PyProof.ListCopy
import PyProof.RangeFor
import PyProof.IsRules
import PyProof.Rules3
import PyProof.Rows.Lst
import PyProof.Rows.Globals
import PyProof.Rows.Nodes
import PyProof.Rows.News
import PyProof.Rows.Calls2
import PyProof.ListIndexNeg
import KE.KDictOf
import PyProof.AttrMissHeap
import PyProof.WalksMore
import OpenK.KLine
import PyProof.Rows.CatchBare
import PyProof.Rows.RowBridgeG
import OpenK.KRaise
import PyProof.ExcFactsAll.ValueError
import PyProof.ExcBaseAll.Exception
import PyProof.Rows.GenRowsK
import PySem.Challenge.RW_sx_zcinder_5
set_option Elab.async false
set_option linter.all false
set_option genSizeOf false

namespace Mine
open PySem
set_option genSizeOf false
noncomputable def lim : Nat := 1048576
inductive CO where
  | lt | le | gt | ge | eq | ne | isin | notin
  deriving DecidableEq
set_option genInjectivity false
mutual
inductive PE where
  | none
  | bool (b : Bool)
  | int (i : Int)
  | str (x : Str)
  | var (i : Nat)
  | add (a b : PE)
  | sub (a b : PE)
  | mulc (k : Int) (a : PE)
  | mod (a b : PE)
  | divc (a : PE) (k : Int)
  | neg (a : PE)
  | cat (a b : PE)
  | repl (c n : PE)
  | scat (a b : PE)
  | strOf (a : PE)
  | cmp (o : CO) (a b : PE)
  | isN (a : PE)
  | notN (a : PE)
  | typeIs (a : PE) (T : String)
  | ite (c : PC) (a b : PE)
  | idx (a b : PE)
  | last (a : PE)
  | slLH (a lo hi : PE)
  | slH (a hi : PE)
  | slL (a lo : PE)
  | list (es : PEs)
  | tuple (es : PEs)
  | dict0
  | call (f : Nat) (es : PEs)
  | len (a : PE)
  | listOf (a : PE)
  | dictOf (a : PE)
  | abs (a : PE)
  | sum (a : PE)
  | comp (x : Str) (caps : List Nat) (rng : Bool) (src : PE) (cond : PC) (elt : PE)
inductive PEs where
  | nil
  | cons (e : PE) (es : PEs)
inductive PC where
  | tt
  | ex (e : PE)
  | not (c : PC)
  | and (a b : PC)
  | or (a b : PC)
end
mutual
inductive PS where
  | assign (x : Nat) (e : PE)
  | store (x : Nat) (i e : PE)
  | append (x : Nat) (e : PE)
  | ite (c : PC) (a b : PSs)
  | forL (x : Nat) (it : PE) (body : PSs)
  | forR (x : Nat) (n : PE) (body : PSs)
  | while (c : PC) (body : PSs)
  | ret (e : PE)
  | ret2 (x y : Nat) (e d : PE)
  | stuck
inductive PSs where
  | nil
  | cons (s : PS) (r : PSs)
  | unpA (f : Nat) (es : PEs) (st vn vf vt vm : Nat) (r : PSs)
  | unpS (f : Nat) (es : PEs) (st vn vf vt : Nat) (i : PE) (r : PSs)
end
set_option genInjectivity true
noncomputable abbrev Store := List (Option PyData)
noncomputable def Store.get (σ : Store) (i : Nat) : Option PyData := (σ[i]?).join
noncomputable def dAdd : PyData → PyData → Option PyData
  | .int a, .int b => some (.int (a + b))
  | _, _ => .none
noncomputable def dSub : PyData → PyData → Option PyData
  | .int a, .int b => some (.int (a - b))
  | _, _ => .none
noncomputable def dMulc (k : Int) : PyData → Option PyData
  | .int a => if k.natAbs < 4294967296 then some (.int (k * a)) else .none
  | _ => .none
noncomputable def dMod : PyData → PyData → Option PyData
  | .int a, .int b => if b = 0 then .none else some (.int (a.fmod b))
  | _, _ => .none
noncomputable def dDivc (k : Int) : PyData → Option PyData
  | .int a => if k = 2 then some (.int (a.fdiv k)) else .none
  | _ => .none
noncomputable def dNeg : PyData → Option PyData
  | .int a => some (.int (-a))
  | _ => .none
noncomputable def dCat : PyData → PyData → Option PyData
  | .list xs, .list ys => if xs.length + ys.length ≤ lim then some (.list (xs ++ ys)) else .none
  | _, _ => .none
noncomputable def dRepl : PyData → PyData → Option PyData
  | .int c, .int n => if n.natAbs ≤ 1048576 then some (.list (List.replicate n.toNat (.int c))) else .none
  | _, _ => .none
noncomputable def dScat : PyData → PyData → Option PyData
  | .str a, .str b => if a.length + b.length ≤ lim then some (.str (a ++ b)) else .none
  | _, _ => .none
noncomputable def dStr : PyData → Option PyData
  | .int a => if a.natAbs < 1000000 then some (.str (Str.ofString (toString a))) else .none
  | _ => .none
noncomputable def shallow (d : PyData) : Bool := d.canLay0 && decide (d.depth ≤ 16)
noncomputable def int2 (f : Int → Int → Bool) : PyData → PyData → Option Bool
  | .int a, .int b => some (f a b)
  | _, _ => .none
noncomputable def inL (f : Bool → Bool) (a : PyData) : PyData → Option Bool
  | .list xs => if shallow a && shallow (.list xs) then some (f (xs.any fun y => PyData.eqv y a)) else .none
  | _ => .none
noncomputable def dCmp (o : CO) (a b : PyData) : Option Bool := match o with
  | .lt => int2 (fun a b => decide (a < b)) a b
  | .le => int2 (fun a b => decide (a ≤ b)) a b
  | .gt => int2 (fun a b => decide (a > b)) a b
  | .ge => int2 (fun a b => decide (a ≥ b)) a b
  | .eq => if shallow a && shallow b then some (PyData.eqv a b) else .none
  | .ne => if shallow a && shallow b then some (!PyData.eqv a b) else .none
  | .isin => inL (fun b => b) a b
  | .notin => inL (fun b => !b) a b
noncomputable def dIsNone : PyData → Bool
  | .none => true
  | _ => false
noncomputable def dTypeIs (T : String) : PyData → Option Bool
  | .int _ => if T = "int" then some true else .none
  | .tuple _ => if T = "tuple" then some true else .none
  | _ => .none
noncomputable def dictGet : List (PyData × PyData) → Int → Option Int
  | (.int k, .int v) :: r, i => if k = i then some v else dictGet r i
  | _, _ => .none
noncomputable def dIdx : PyData → PyData → Option PyData
  | .list xs, .int i => if 0 ≤ i ∧ i.toNat < 1048576 then xs[i.toNat]? else .none
  | .tuple xs, .int i => if 0 ≤ i ∧ i.toNat < 1048576 then xs[i.toNat]? else .none
  | .dict kvs, .int i => (dictGet kvs i).map .int
  | _, _ => .none
noncomputable def dLast : PyData → Option PyData
  | .list xs => if xs.length ≤ lim then xs.getLast? else .none
  | _ => .none
noncomputable def clampI (n : Nat) (i : Int) : Nat := if i < 0 then (i + n).toNat else min i.toNat n
noncomputable def dSlLH : PyData → PyData → PyData → Option PyData
  | .list xs, .int lo, .int hi => if xs.length ≤ lim then some (.list ((xs.take (clampI xs.length hi)).drop (clampI xs.length lo))) else .none
  | _, _, _ => .none
noncomputable def dSlH : PyData → PyData → Option PyData
  | .list xs, .int hi => if xs.length ≤ lim then some (.list (xs.take (clampI xs.length hi))) else .none
  | _, _ => .none
noncomputable def dSlL : PyData → PyData → Option PyData
  | .list xs, .int lo => if xs.length ≤ lim then some (.list (xs.drop (clampI xs.length lo))) else .none
  | _, _ => .none
noncomputable def dLen : PyData → Option PyData
  | .list xs => if xs.length ≤ lim then some (.int xs.length) else .none
  | _ => .none
noncomputable def dListOf : PyData → Option PyData
  | .list xs => if xs.length ≤ lim then some (.list xs) else .none
  | _ => .none
noncomputable def pairOf : PyData → Option (Int × Int)
  | .tuple [.int a, .int b] => some (a, b)
  | _ => .none
noncomputable def allSome {α β : Type} (f : α → Option β) : List α → Option (List β)
  | [] => some []
  | x :: xs => match f x, allSome f xs with
    | some y, some ys => some (y :: ys)
    | _, _ => none
noncomputable def dDictOf : PyData → Option PyData
  | .list xs => if xs.length ≤ 64 then match allSome pairOf xs with
      | some ps => if (ps.map (·.1)).Nodup then some (.dict (ps.map fun p => (.int p.1, .int p.2))) else .none
      | .none => .none
    else .none
  | _ => .none
noncomputable def dAbs : PyData → Option PyData
  | .int a => some (.int (if a < 0 then -a else a))
  | _ => .none
noncomputable def intOf : PyData → Option Int
  | .int a => some a
  | _ => .none
noncomputable def dSum : PyData → Option PyData
  | .list xs => if xs.length ≤ lim then (allSome intOf xs).map fun ns => .int ns.sum else .none
  | _ => .none
noncomputable def rangeOf (n : Int) : List PyData := (List.range n.toNat).map fun (i : Nat) => .int (i : Int)
noncomputable def itemsOf (rng : Bool) : PyData → Option (List PyData)
  | .list xs => if rng then .none else if xs.length ≤ lim then some xs else .none
  | .int n => if rng then (if n.natAbs ≤ 1048576 then some (rangeOf n) else .none) else .none
  | _ => .none
noncomputable def compD (t : PyData → Option Bool) (g : PyData → Option PyData) : List PyData → Option (List PyData)
  | [] => some []
  | d :: ds => if d.canLay0 then match t d with
    | some true => match g d with
      | some (.int k) => match compD t g ds with
        | some r => some (.int k :: r)
        | .none => .none
      | _ => .none
    | some false => compD t g ds
    | .none => .none
    else .none
section
variable (Φ : Nat → List PyData → Option PyData)
mutual
noncomputable def denE : PE → Store → Option PyData
  | .none, _ => some .none
  | .bool b, _ => some (.bool b)
  | .int i, _ => some (.int i)
  | .str x, _ => some (.str x)
  | .var i, σ => σ.get i
  | .add a b, σ => (denE a σ).bind fun x => (denE b σ).bind fun y => dAdd x y
  | .sub a b, σ => (denE a σ).bind fun x => (denE b σ).bind fun y => dSub x y
  | .mulc k a, σ => (denE a σ).bind fun x => dMulc k x
  | .mod a b, σ => (denE a σ).bind fun x => (denE b σ).bind fun y => dMod x y
  | .divc a k, σ => (denE a σ).bind fun x => dDivc k x
  | .neg a, σ => (denE a σ).bind dNeg
  | .cat a b, σ => (denE a σ).bind fun x => (denE b σ).bind fun y => dCat x y
  | .repl a b, σ => (denE a σ).bind fun x => (denE b σ).bind fun y => dRepl x y
  | .scat a b, σ => (denE a σ).bind fun x => (denE b σ).bind fun y => dScat x y
  | .strOf a, σ => (denE a σ).bind dStr
  | .cmp o a b, σ => (denE a σ).bind fun x => (denE b σ).bind fun y => (dCmp o x y).map .bool
  | .isN a, σ => (denE a σ).bind fun x => some (.bool (dIsNone x))
  | .notN a, σ => (denE a σ).bind fun x => some (.bool (!dIsNone x))
  | .typeIs a T, σ => (denE a σ).bind fun x => (dTypeIs T x).map .bool
  | .ite c a b, σ => (denC c σ).bind fun t => if t then denE a σ else denE b σ
  | .idx a b, σ => (denE a σ).bind fun x => (denE b σ).bind fun y => dIdx x y
  | .last a, σ => (denE a σ).bind dLast
  | .slLH a l h, σ => (denE a σ).bind fun x => (denE l σ).bind fun y => (denE h σ).bind fun z => dSlLH x y z
  | .slH a h, σ => (denE a σ).bind fun x => (denE h σ).bind fun y => dSlH x y
  | .slL a l, σ => (denE a σ).bind fun x => (denE l σ).bind fun y => dSlL x y
  | .list es, σ => (denEs es σ).bind fun xs => if xs.length ≤ 64 then some (.list xs) else .none
  | .tuple es, σ => (denEs es σ).bind fun xs => if xs.length ≤ 64 then some (.tuple xs) else .none
  | .dict0, _ => some (.dict [])
  | .call f es, σ => (denEs es σ).bind fun xs => Φ f xs
  | .len a, σ => (denE a σ).bind dLen
  | .listOf a, σ => (denE a σ).bind dListOf
  | .dictOf a, σ => (denE a σ).bind dDictOf
  | .abs a, σ => (denE a σ).bind dAbs
  | .sum a, σ => (denE a σ).bind dSum
  | .comp _ caps rng src cond elt, σ => (denE src σ).bind fun x => (itemsOf rng x).bind fun items =>
      (compD (fun d => denC cond (some d :: caps.map σ.get)) (fun d => denE elt (some d :: caps.map σ.get)) items).map .list
noncomputable def denEs : PEs → Store → Option (List PyData)
  | .nil, _ => some []
  | .cons e es, σ => (denE e σ).bind fun x => (denEs es σ).bind fun xs => some (x :: xs)
noncomputable def denC : PC → Store → Option Bool
  | .tt, _ => some true
  | .ex e, σ => (denE e σ).bind fun x => match x with | .bool b => some b | _ => .none
  | .not c, σ => (denC c σ).map (!·)
  | .and a b, σ => (denC a σ).bind fun t => if t then denC b σ else some false
  | .or a b, σ => (denC a σ).bind fun t => if t then some true else denC b σ
end
inductive Res where
  | next (σ : Store)
  | ret (d : PyData)
noncomputable def dStore : PyData → PyData → PyData → Option PyData
  | .list xs, .int i, .int v => if 0 ≤ i ∧ i < xs.length ∧ xs.length ≤ lim then some (.list (xs.set i.toNat (.int v))) else .none
  | _, _, _ => .none
noncomputable def dAppend : PyData → PyData → Option PyData
  | .list xs, v => if xs.length < lim then some (.list (xs ++ [v])) else .none
  | _, _ => .none
noncomputable def loopD (body : Store → Option Res) (x : Nat) : List PyData → Store → Option Res
  | [], σ => some (.next σ)
  | d :: ds, σ => match body (σ.set x (some d)) with
    | some (.next σ') => loopD body x ds σ'
    | some (.ret r) => some (.ret r)
    | .none => .none
noncomputable def whileD (c : Store → Option Bool) (body : Store → Option Res) : Nat → Store → Option Res
  | 0, _ => .none
  | n + 1, σ => match c σ with
    | some true => match body σ with
      | some (.next σ') => whileD c body n σ'
      | some (.ret r) => some (.ret r)
      | .none => .none
    | some false => some (.next σ)
    | .none => .none
noncomputable def isIntD : PyData → Bool
  | .int _ => true
  | _ => false
noncomputable def intsOnly : PyData → Bool
  | .list xs => xs.all isIntD
  | _ => false
noncomputable def unp4 : PyData → Option (PyData × PyData × PyData × PyData)
  | .tuple [a, b, .int c, .int d] => if intsOnly a && intsOnly b then some (a, b, .int c, .int d) else .none
  | _ => .none
variable (fuel : Nat)
mutual
noncomputable def denS : PS → Store → Option Res
  | .assign x e, σ => (denE Φ e σ).bind fun d => some (.next (σ.set x (some d)))
  | .store x i e, σ => (denE Φ e σ).bind fun d => (σ.get x).bind fun l => (denE Φ i σ).bind fun k => (dStore l k d).bind fun l' => some (.next (σ.set x (some l')))
  | .append x e, σ => (σ.get x).bind fun l => (denE Φ e σ).bind fun d => (dAppend l d).bind fun l' => some (.next (σ.set x (some l')))
  | .ite c a b, σ => (denC Φ c σ).bind fun t => if t then denSs a σ else denSs b σ
  | .forL x it body, σ => (denE Φ it σ).bind fun d => (itemsOf false d).bind fun items => loopD (denSs body) x items σ
  | .forR x n body, σ => (denE Φ n σ).bind fun d => (itemsOf true d).bind fun items => loopD (denSs body) x items σ
  | .while c body, σ => whileD (denC Φ c) (denSs body) fuel σ
  | .ret e, σ => (denE Φ e σ).bind fun d => some (.ret d)
  | .ret2 x y e d, σ => (σ.get x).bind fun a => (σ.get y).bind fun b => (denE Φ e σ).bind fun c => (denE Φ d σ).bind fun k => some (.ret (.tuple [a, b, c, k]))
  | .stuck, _ => .none
noncomputable def denSs : PSs → Store → Option Res
  | .nil, σ => some (.next σ)
  | .cons s r, σ => match denS s σ with
    | some (.next σ') => denSs r σ'
    | some (.ret d) => some (.ret d)
    | .none => .none
  | .unpA f es st vn vf vt vm r, σ => (denEs Φ es σ).bind fun xs => (Φ f xs).bind fun t => (unp4 t).bind fun q => (σ.get vm).bind fun l => (dAppend l q.2.2.2).bind fun l' =>
      denSs r (((((σ.set st .none).set vn (some q.1)).set vf (some q.2.1)).set vt (some q.2.2.1)).set vm (some l'))
  | .unpS f es st vn vf vt i r, σ => (denEs Φ es σ).bind fun xs => (Φ f xs).bind fun t => (unp4 t).bind fun q =>
      (denE Φ i ((((σ.set st .none).set vn (some q.1)).set vf (some q.2.1)).set vt (some q.2.2.1))).bind fun k => (dStore q.1 k q.2.2.2).bind fun l' =>
      denSs r (((((σ.set st .none).set vn (some q.1)).set vf (some q.2.1)).set vt (some q.2.2.1)).set vn (some l'))
end
end
structure FD where
  np : Nat
  nv : Nat
  own : List Nat
  body : PSs
  pro : List Nat := []
noncomputable def startStore (fd : FD) (args : List PyData) : Store := args.map some ++ List.replicate (fd.nv - fd.np) .none
noncomputable def runD (Φ : Nat → List PyData → Option PyData) (fuel : Nat) (fd : FD) (args : List PyData) : Option PyData :=
  if args.length = fd.np ∧ fd.pro.all (fun i => match args[i]? with | some (.list xs) => decide (xs.length ≤ lim) | _ => false) = true then match denSs Φ fuel fd.body (startStore fd args) with
    | some (.ret d) => some d
    | _ => .none
  else .none
noncomputable def callD (tab : List FD) (fuel : Nat) : Nat → Nat → List PyData → Option PyData
  | 0, _, _ => .none
  | n + 1, f, args => match tab[f]? with
    | some fd => runD (callD tab fuel n) fuel fd args
    | .none => .none
section
variable (Φ : Nat → List PyData → Option PyData) (fuel : Nat) (σ : Store)
theorem q_none : denE Φ (.none) σ = some .none := rfl
theorem q_bool b : denE Φ (.bool b) σ = some (.bool b) := rfl
theorem q_int i : denE Φ (.int i) σ = some (.int i) := rfl
theorem q_str x : denE Φ (.str x) σ = some (.str x) := rfl
theorem q_var i : denE Φ (.var i) σ = σ.get i := rfl
theorem q_add a b : denE Φ (.add a b) σ = (denE Φ a σ).bind fun x => (denE Φ b σ).bind fun y => dAdd x y := rfl
theorem q_sub a b : denE Φ (.sub a b) σ = (denE Φ a σ).bind fun x => (denE Φ b σ).bind fun y => dSub x y := rfl
theorem q_mulc k a : denE Φ (.mulc k a) σ = (denE Φ a σ).bind fun x => dMulc k x := rfl
theorem q_mod a b : denE Φ (.mod a b) σ = (denE Φ a σ).bind fun x => (denE Φ b σ).bind fun y => dMod x y := rfl
theorem q_divc a k : denE Φ (.divc a k) σ = (denE Φ a σ).bind fun x => dDivc k x := rfl
theorem q_neg a : denE Φ (.neg a) σ = (denE Φ a σ).bind dNeg := rfl
theorem den_cat a b : denE Φ (.cat a b) σ = (denE Φ a σ).bind fun x => (denE Φ b σ).bind fun y => dCat x y := rfl
theorem q_repl a b : denE Φ (.repl a b) σ = (denE Φ a σ).bind fun x => (denE Φ b σ).bind fun y => dRepl x y := rfl
theorem q_scat a b : denE Φ (.scat a b) σ = (denE Φ a σ).bind fun x => (denE Φ b σ).bind fun y => dScat x y := rfl
theorem q_strOf a : denE Φ (.strOf a) σ = (denE Φ a σ).bind dStr := rfl
theorem den_cmp o a b : denE Φ (.cmp o a b) σ = (denE Φ a σ).bind fun x => (denE Φ b σ).bind fun y => (dCmp o x y).map .bool := rfl
theorem q_isN a : denE Φ (.isN a) σ = (denE Φ a σ).bind fun x => some (.bool (dIsNone x)) := rfl
theorem q_notN a : denE Φ (.notN a) σ = (denE Φ a σ).bind fun x => some (.bool (!dIsNone x)) := rfl
theorem q_typeIs a T : denE Φ (.typeIs a T) σ = (denE Φ a σ).bind fun x => (dTypeIs T x).map .bool := rfl
theorem q_ite c a b : denE Φ (.ite c a b) σ = (denC Φ c σ).bind fun t => if t then denE Φ a σ else denE Φ b σ := rfl
theorem den_idx a b : denE Φ (.idx a b) σ = (denE Φ a σ).bind fun x => (denE Φ b σ).bind fun y => dIdx x y := rfl
theorem q_last a : denE Φ (.last a) σ = (denE Φ a σ).bind dLast := rfl
theorem q_slLH a l h : denE Φ (.slLH a l h) σ = (denE Φ a σ).bind fun x => (denE Φ l σ).bind fun y => (denE Φ h σ).bind fun z => dSlLH x y z := rfl
theorem q_slH a h : denE Φ (.slH a h) σ = (denE Φ a σ).bind fun x => (denE Φ h σ).bind fun y => dSlH x y := rfl
theorem q_slL a l : denE Φ (.slL a l) σ = (denE Φ a σ).bind fun x => (denE Φ l σ).bind fun y => dSlL x y := rfl
theorem q_list es : denE Φ (.list es) σ = (denEs Φ es σ).bind fun xs => if xs.length ≤ 64 then some (.list xs) else .none := rfl
theorem den_tuple es : denE Φ (.tuple es) σ = (denEs Φ es σ).bind fun xs => if xs.length ≤ 64 then some (.tuple xs) else .none := rfl
theorem q_dict0 : denE Φ (.dict0) σ = some (.dict []) := rfl
theorem q_call f es : denE Φ (.call f es) σ = (denEs Φ es σ).bind fun xs => Φ f xs := rfl
theorem q_len a : denE Φ (.len a) σ = (denE Φ a σ).bind dLen := rfl
theorem q_listOf a : denE Φ (.listOf a) σ = (denE Φ a σ).bind dListOf := rfl
theorem q_dictOf a : denE Φ (.dictOf a) σ = (denE Φ a σ).bind dDictOf := rfl
theorem q_abs a : denE Φ (.abs a) σ = (denE Φ a σ).bind dAbs := rfl
theorem den_sum a : denE Φ (.sum a) σ = (denE Φ a σ).bind dSum := rfl
theorem den_comp z0 caps rng src cond elt : denE Φ (.comp z0 caps rng src cond elt) σ = (denE Φ src σ).bind fun x => (itemsOf rng x).bind fun items => (compD (fun d => denC Φ cond (some d :: caps.map σ.get)) (fun d => denE Φ elt (some d :: caps.map σ.get)) items).map .list := rfl
theorem dEs_nil : denEs Φ (.nil) σ = some [] := rfl
theorem dEs_cons e es : denEs Φ (.cons e es) σ = (denE Φ e σ).bind fun x => (denEs Φ es σ).bind fun xs => some (x :: xs) := rfl
theorem dC_tt : denC Φ (.tt) σ = some true := rfl
theorem dC_ex e : denC Φ (.ex e) σ = (denE Φ e σ).bind fun x => match x with | .bool b => some b | _ => .none := rfl
theorem dC_not c : denC Φ (.not c) σ = (denC Φ c σ).map (!·) := rfl
theorem dC_and a b : denC Φ (.and a b) σ = (denC Φ a σ).bind fun t => if t then denC Φ b σ else some false := rfl
theorem dC_or a b : denC Φ (.or a b) σ = (denC Φ a σ).bind fun t => if t then some true else denC Φ b σ := rfl
theorem dS_assign x e : denS Φ fuel (.assign x e) σ = (denE Φ e σ).bind fun d => some (.next (σ.set x (some d))) := rfl
theorem dS_store x i e : denS Φ fuel (.store x i e) σ = (denE Φ e σ).bind fun d => (σ.get x).bind fun l => (denE Φ i σ).bind fun k => (dStore l k d).bind fun l' => some (.next (σ.set x (some l'))) := rfl
theorem dS_append x e : denS Φ fuel (.append x e) σ = (σ.get x).bind fun l => (denE Φ e σ).bind fun d => (dAppend l d).bind fun l' => some (.next (σ.set x (some l'))) := rfl
theorem dS_ite c a b : denS Φ fuel (.ite c a b) σ = (denC Φ c σ).bind fun t => if t then denSs Φ fuel a σ else denSs Φ fuel b σ := rfl
theorem dS_forL x it body : denS Φ fuel (.forL x it body) σ = (denE Φ it σ).bind fun d => (itemsOf false d).bind fun items => loopD (denSs Φ fuel body) x items σ := rfl
theorem dS_forR x n body : denS Φ fuel (.forR x n body) σ = (denE Φ n σ).bind fun d => (itemsOf true d).bind fun items => loopD (denSs Φ fuel body) x items σ := rfl
theorem dS_while c body : denS Φ fuel (.while c body) σ = whileD (denC Φ c) (denSs Φ fuel body) fuel σ := rfl
theorem dS_ret e : denS Φ fuel (.ret e) σ = (denE Φ e σ).bind fun d => some (.ret d) := rfl
theorem dS_ret2 x y e d : denS Φ fuel (.ret2 x y e d) σ = (σ.get x).bind fun a => (σ.get y).bind fun b => (denE Φ e σ).bind fun c => (denE Φ d σ).bind fun k => some (.ret (.tuple [a, b, c, k])) := rfl
theorem dS_stuck : denS Φ fuel (.stuck) σ = .none := rfl
theorem dSs_nil : denSs Φ fuel (.nil) σ = some (.next σ) := rfl
theorem dSs_cons s r : denSs Φ fuel (.cons s r) σ = match denS Φ fuel s σ with | some (.next σ') => denSs Φ fuel r σ' | some (.ret d) => some (.ret d) | .none => .none := rfl
theorem dSs_unpA f es st vn vf vt vm r : denSs Φ fuel (.unpA f es st vn vf vt vm r) σ = (denEs Φ es σ).bind fun xs => (Φ f xs).bind fun t => (unp4 t).bind fun q => (σ.get vm).bind fun l => (dAppend l q.2.2.2).bind fun l' => denSs Φ fuel r (((((σ.set st .none).set vn (some q.1)).set vf (some q.2.1)).set vt (some q.2.2.1)).set vm (some l')) := rfl
theorem dSs_unpS f es st vn vf vt i r : denSs Φ fuel (.unpS f es st vn vf vt i r) σ = (denEs Φ es σ).bind fun xs => (Φ f xs).bind fun t => (unp4 t).bind fun q => (denE Φ i ((((σ.set st .none).set vn (some q.1)).set vf (some q.2.1)).set vt (some q.2.2.1))).bind fun k => (dStore q.1 k q.2.2.2).bind fun l' => denSs Φ fuel r (((((σ.set st .none).set vn (some q.1)).set vf (some q.2.1)).set vt (some q.2.2.1)).set vn (some l')) := rfl
end
theorem o_add (a b : Int) : dAdd (.int a) (.int b) = some (.int (a + b)) := rfl
theorem o_sub (a b : Int) : dSub (.int a) (.int b) = some (.int (a - b)) := rfl
theorem o_mulc (k a : Int) : dMulc k (.int a) = if k.natAbs < 4294967296 then some (.int (k * a)) else .none := rfl
theorem o_mod (a b : Int) : dMod (.int a) (.int b) = if b = 0 then .none else some (.int (a.fmod b)) := rfl
theorem o_divc (k a : Int) : dDivc k (.int a) = if k = 2 then some (.int (a.fdiv k)) else .none := rfl
theorem o_neg (a : Int) : dNeg (.int a) = some (.int (-a)) := rfl
theorem o_abs (a : Int) : dAbs (.int a) = some (.int (if a < 0 then -a else a)) := rfl
theorem o_lt (a b : Int) : dCmp .lt (.int a) (.int b) = some (decide (a < b)) := rfl
theorem o_le (a b : Int) : dCmp .le (.int a) (.int b) = some (decide (a ≤ b)) := rfl
theorem o_gt (a b : Int) : dCmp .gt (.int a) (.int b) = some (decide (a > b)) := rfl
theorem o_ge (a b : Int) : dCmp .ge (.int a) (.int b) = some (decide (a ≥ b)) := rfl
theorem o_eq (a b : PyData) : dCmp .eq a b = if shallow a && shallow b then some (PyData.eqv a b) else .none := rfl
theorem o_ne (a b : PyData) : dCmp .ne a b = if shallow a && shallow b then some (!PyData.eqv a b) else .none := rfl
theorem o_in (a : PyData) (xs : List PyData) : dCmp .isin a (.list xs) = if shallow a && shallow (.list xs) then some (xs.any fun y => PyData.eqv y a) else .none := rfl
theorem o_ni (a : PyData) (xs : List PyData) : dCmp .notin a (.list xs) = if shallow a && shallow (.list xs) then some (!xs.any fun y => PyData.eqv y a) else .none := rfl
theorem o_n0 : dIsNone .none = true := rfl
theorem o_n1 (i : Int) : dIsNone (.int i) = false := rfl
theorem o_n2 (i : List PyData) : dIsNone (.list i) = false := rfl
theorem o_n3 (i : List PyData) : dIsNone (.tuple i) = false := rfl
theorem o_iL (xs : List PyData) (i : Int) : dIdx (.list xs) (.int i) = if 0 ≤ i ∧ i.toNat < 1048576 then xs[i.toNat]? else .none := rfl
theorem o_iT (xs : List PyData) (i : Int) : dIdx (.tuple xs) (.int i) = if 0 ≤ i ∧ i.toNat < 1048576 then xs[i.toNat]? else .none := rfl
theorem o_iD (xs : List (PyData × PyData)) (i : Int) : dIdx (.dict xs) (.int i) = (dictGet xs i).map .int := rfl
theorem o_dg (k v i : Int) (r : List (PyData × PyData)) : dictGet ((.int k, .int v) :: r) i = if k = i then some v else dictGet r i := rfl
theorem o_d0 (i : Int) : dictGet [] i = .none := rfl
theorem o_xL (b : Bool) (xs : List PyData) : itemsOf b (.list xs) = if b then .none else if xs.length ≤ lim then some xs else .none := rfl
theorem o_xI (b : Bool) (n : Int) : itemsOf b (.int n) = if b then (if n.natAbs ≤ 1048576 then some (rangeOf n) else .none) else .none := rfl
theorem o_ii (i : Int) : isIntD (.int i) = true := rfl
theorem o_il (xs : List PyData) : intsOnly (.list xs) = xs.all isIntD := rfl
theorem o_un (a b : PyData) (c d : Int) : unp4 (.tuple [a, b, .int c, .int d]) = if intsOnly a && intsOnly b then some (a, b, .int c, .int d) else .none := rfl
theorem o_ap (xs : List PyData) (v : PyData) : dAppend (.list xs) v = if xs.length < lim then some (.list (xs ++ [v])) else .none := rfl
theorem o_io (i : Int) : intOf (.int i) = some i := rfl
theorem o_po (a b : Int) : pairOf (.tuple [.int a, .int b]) = some (a, b) := rfl
theorem o_do (xs : List PyData) : dDictOf (.list xs) = if xs.length ≤ 64 then match allSome pairOf xs with | some ps => if (ps.map (·.1)).Nodup then some (.dict (ps.map fun p => (.int p.1, .int p.2))) else .none | .none => .none else .none := rfl
theorem o_l0 (f : Store → Option Res) (x : Nat) (σ : Store) : loopD f x [] σ = some (.next σ) := rfl
theorem o_l1 (f : Store → Option Res) (x : Nat) (d : PyData) (ds : List PyData) (σ : Store) : loopD f x (d :: ds) σ = match f (σ.set x (some d)) with | some (.next σ') => loopD f x ds σ' | some (.ret r) => some (.ret r) | .none => .none := rfl
theorem o_ca (tab : List FD) (fuel n f : Nat) (args : List PyData) : callD tab fuel (n + 1) f args = match tab[f]? with | some fd => runD (callD tab fuel n) fuel fd args | .none => .none := rfl
theorem o_sc (a b : Str) : dScat (.str a) (.str b) = if a.length + b.length ≤ lim then some (.str (a ++ b)) else .none := rfl
theorem o_e1 (a b : Int) : PyData.eqv (.int a) (.int b) = decide (a = b) := rfl
theorem o_as {α β : Type} {f : α → Option β} {x : α} {xs : List α} {y : β} {ys : List β} (h : f x = some y) (h2 : allSome f xs = some ys) : allSome f (x :: xs) = some (y :: ys) := by
  have e : allSome f (x :: xs) = (match f x, allSome f xs with | some y, some ys => some (y :: ys) | _, _ => none) := rfl
  rw [e, h, h2]
theorem as_inv {α β : Type} {f : α → Option β} {x : α} {xs : List α} {r : List β} (h : allSome f (x :: xs) = some r) : ∃ y ys, f x = some y ∧ allSome f xs = some ys ∧ r = y :: ys := by
  have e : (match f x, allSome f xs with | some y, some ys => some (y :: ys) | _, _ => none) = some r := h
  revert e
  cases f x with
  | none => exact fun e => nomatch e
  | some y => cases allSome f xs with
    | none => exact fun e => nomatch e
    | some ys => exact fun e => ⟨y, ys, rfl, rfl, (Option.some.inj e).symm⟩
theorem via {α β : Type} {o : Option α} {x : α} {f : α → Option β} {r : Option β} (h : o = some x) (h2 : f x = r) : o.bind f = r := by rw [h]; exact h2
theorem viam {α β : Type} {o : Option α} {x : α} {f : α → β} (h : o = some x) : o.map f = some (f x) := by rw [h]; rfl
end Mine

namespace Mine
open PySem PyProof.Rows
set_option autoImplicit false
noncomputable abbrev Keep (h h' : Heap) : Prop := ∀ b o, h.get? b = some o → h'.get? b = some o
mutual
inductive Rd (h : Heap) : Value → PyData → List Addr → Prop
  | none : Rd h .none .none []
  | bool (b) : Rd h (.bool b) (.bool b) []
  | int (i t) : Rd h (.int i t) (.int i) []
  | str (x t) : Rd h (.str x t) (.str x) []
  | list {a vs xs as} : PlainL h a (List.toArray vs) → Rds h vs xs as → Rd h (.ref a) (.list xs) (a :: as)
  | tuple {a vs xs as} : IsTup h a (List.toArray vs) → Rds h vs xs as → Rd h (.ref a) (.tuple xs) (a :: as)
  | dict {a f kvs} : h.IntMap a f → (∀ k v, dictGet kvs k = some v → ∃ t, f k = some (.int v t)) → Rd h (.ref a) (.dict kvs) [a]
inductive Rds (h : Heap) : List Value → List PyData → List Addr → Prop
  | nil : Rds h [] [] []
  | cons {v vs d ds as bs} : Rd h v d as → Rds h vs ds bs → Rds h (v :: vs) (d :: ds) (as ++ bs)
end
theorem plainL_at {h h' : Heap} {a : Addr} {its : Array Value} (x : PlainL h a its) (k : ∀ o, h.get? a = some o → h'.get? a = some o) : PlainL h' a its :=
  let ⟨o, n, e, r⟩ := x; ⟨o, n, k o e, r⟩
theorem isTup_at {h h' : Heap} {a : Addr} {its : Array Value} (x : IsTup h a its) (k : ∀ o, h.get? a = some o → h'.get? a = some o) : IsTup h' a its :=
  let ⟨o, e, r⟩ := x; ⟨o, k o e, r⟩
theorem intMap_at {h h' : Heap} {a : Addr} {f : Int → Option Value} (x : h.IntMap a f) (k : ∀ o, h.get? a = some o → h'.get? a = some o) : h'.IntMap a f :=
  let ⟨o, es, ep, e, r⟩ := x; ⟨o, es, ep, k o e, r⟩
theorem Rd.ind {h : Heap} {P : Value → PyData → List Addr → Prop} {Q : List Value → List PyData → List Addr → Prop} (hn : P .none .none []) (hb : ∀ b, P (.bool b) (.bool b) []) (hi : ∀ i t, P (.int i t) (.int i) []) (hs : ∀ x t, P (.str x t) (.str x) [])
    (hl : ∀ {a vs xs as}, PlainL h a (List.toArray vs) → Q vs xs as → P (.ref a) (.list xs) (a :: as)) (ht : ∀ {a vs xs as}, IsTup h a (List.toArray vs) → Q vs xs as → P (.ref a) (.tuple xs) (a :: as))
    (hd : ∀ {a f kvs}, h.IntMap a f → (∀ k v, dictGet kvs k = some v → ∃ t, f k = some (.int v t)) → P (.ref a) (.dict kvs) [a]) (q0 : Q [] [] []) (q1 : ∀ {v vs d ds as bs}, P v d as → Q vs ds bs → Q (v :: vs) (d :: ds) (as ++ bs)) :
    (∀ {v d fp}, Rd h v d fp → P v d fp) ∧ ∀ {vs ds fp}, Rds h vs ds fp → Q vs ds fp :=
  ⟨fun r => Rd.rec (motive_1 := fun v d fp _ => P v d fp) (motive_2 := fun vs ds fp _ => Q vs ds fp) hn hb hi hs (fun x _ q => hl x q) (fun x _ q => ht x q) (fun x y => hd x y) q0 (fun _ _ p q => q1 p q) r,
   fun r => Rds.rec (motive_1 := fun v d fp _ => P v d fp) (motive_2 := fun vs ds fp _ => Q vs ds fp) hn hb hi hs (fun x _ q => hl x q) (fun x _ q => ht x q) (fun x y => hd x y) q0 (fun _ _ p q => q1 p q) r⟩
theorem Rd.ats {h h' : Heap} : (∀ {v d fp}, Rd h v d fp → (∀ a ∈ fp, ∀ o, h.get? a = some o → h'.get? a = some o) → Rd h' v d fp) ∧ ∀ {vs ds fp}, Rds h vs ds fp → (∀ a ∈ fp, ∀ o, h.get? a = some o → h'.get? a = some o) → Rds h' vs ds fp :=
  Rd.ind (P := fun v d fp => (∀ a ∈ fp, ∀ o, h.get? a = some o → h'.get? a = some o) → Rd h' v d fp) (Q := fun vs ds fp => (∀ a ∈ fp, ∀ o, h.get? a = some o → h'.get? a = some o) → Rds h' vs ds fp)
    (fun _ => .none) (fun b _ => .bool b) (fun i t _ => .int i t) (fun x t _ => .str x t) (fun h1 h2 k => .list (plainL_at h1 (k _ (.head _))) (h2 fun a ha => k a (.tail _ ha)))
    (fun h1 h2 k => .tuple (isTup_at h1 (k _ (.head _))) (h2 fun a ha => k a (.tail _ ha))) (fun h1 h2 k => .dict (intMap_at h1 (k _ (.head _))) h2) (fun _ => .nil)
    (fun h1 h2 k => .cons (h1 fun a ha => k a (List.mem_append_left _ ha)) (h2 fun a ha => k a (List.mem_append_right _ ha)))
theorem Rd.at {h h' : Heap} {v : Value} {d : PyData} {fp : List Addr} (r : Rd h v d fp) (k : ∀ a ∈ fp, ∀ o, h.get? a = some o → h'.get? a = some o) : Rd h' v d fp := Rd.ats.1 r k
theorem Rds.at {h h' : Heap} {v : List Value} {d : List PyData} {fp : List Addr} (r : Rds h v d fp) (k : ∀ a ∈ fp, ∀ o, h.get? a = some o → h'.get? a = some o) : Rds h' v d fp := Rd.ats.2 r k
theorem Rd.keeps {h h' : Heap} {v d fp} (r : Rd h v d fp) (k : Keep h h') : Rd h' v d fp := r.at fun a _ o e => k a o e
theorem Rds.keeps {h h' : Heap} {v d fp} (r : Rds h v d fp) (k : Keep h h') : Rds h' v d fp := r.at fun a _ o e => k a o e
theorem Rd.doms {h : Heap} : (∀ {v d fp}, Rd h v d fp → ∀ a ∈ fp, ∃ o, h.get? a = some o) ∧ ∀ {vs ds fp}, Rds h vs ds fp → ∀ a ∈ fp, ∃ o, h.get? a = some o :=
  Rd.ind (P := fun _ _ fp => ∀ a ∈ fp, ∃ o, h.get? a = some o) (Q := fun _ _ fp => ∀ a ∈ fp, ∃ o, h.get? a = some o) (fun _ q => nomatch q) (fun _ _ q => nomatch q) (fun _ _ _ q => nomatch q) (fun _ _ _ q => nomatch q)
    (fun h1 h2 a ha => (List.mem_cons.mp ha).elim (fun e => let ⟨o, _, x, _⟩ := h1; ⟨o, e ▸ x⟩) (h2 a)) (fun h1 h2 a ha => (List.mem_cons.mp ha).elim (fun e => let ⟨o, x, _⟩ := h1; ⟨o, e ▸ x⟩) (h2 a))
    (fun h1 _ a ha => let ⟨o, _, _, x, _⟩ := h1; ⟨o, List.mem_singleton.mp ha ▸ x⟩) (fun _ q => nomatch q) (fun h1 h2 a ha => (List.mem_append.mp ha).elim (h1 a) (h2 a))
theorem Rd.dom {h : Heap} {v : Value} {d : PyData} {fp : List Addr} (r : Rd h v d fp) : ∀ a ∈ fp, ∃ o, h.get? a = some o := Rd.doms.1 r
theorem Rds.dom {h : Heap} {v : List Value} {d : List PyData} {fp : List Addr} (r : Rds h v d fp) : ∀ a ∈ fp, ∃ o, h.get? a = some o := Rd.doms.2 r
theorem Rds.ind {h : Heap} {Q : List Value → List PyData → List Addr → Prop} (q0 : Q [] [] []) (q1 : ∀ {v vs d ds as bs}, Rd h v d as → Rds h vs ds bs → Q vs ds bs → Q (v :: vs) (d :: ds) (as ++ bs)) : ∀ {vs ds fp}, Rds h vs ds fp → Q vs ds fp :=
  fun r => Rds.rec (motive_1 := fun _ _ _ _ => True) (motive_2 := fun vs ds fp _ => Q vs ds fp) ⟨⟩ (fun _ => ⟨⟩) (fun _ _ => ⟨⟩) (fun _ _ => ⟨⟩) (fun _ _ _ => ⟨⟩) (fun _ _ _ => ⟨⟩) (fun _ _ => ⟨⟩) q0 (fun x y _ q => q1 x y q) r
theorem Rds.length {h : Heap} {vs ds fp} (r : Rds h vs ds fp) : vs.length = ds.length :=
  Rds.ind (Q := fun vs ds _ => vs.length = ds.length) rfl (fun _ _ e => congrArg Nat.succ e) r
inductive RdsG (h : Heap) (vs : List Value) (fp : List Addr) (k : Nat) (d : PyData) : Prop
  | mk (v : Value) (fp' : List Addr) (e : vs[k]? = some v) (r : Rd h v d fp') (s : ∀ a ∈ fp', a ∈ fp) : RdsG h vs fp k d
inductive RdsS (h : Heap) (vs : List Value) (ds : List PyData) (fp : List Addr) : Prop
  | mk (fp' : List Addr) (r : Rds h vs ds fp') (s : ∀ a ∈ fp', a ∈ fp) : RdsS h vs ds fp
theorem Rds.get {h : Heap} {vs ds fp} (r : Rds h vs ds fp) {k : Nat} {d : PyData} (e : ds[k]? = some d) : RdsG h vs fp k d :=
  Rds.ind (Q := fun vs ds fp => ∀ (k : Nat) (d : PyData), ds[k]? = some d → RdsG h vs fp k d) (fun _ _ e => nomatch e)
    (fun h1 h2 ih k d e => by
      cases k with
      | zero => cases e; exact ⟨_, _, rfl, h1, fun a ha => List.mem_append_left _ ha⟩
      | succ k =>
        obtain ⟨v, fp', e1, e2, e3⟩ := ih k d e
        exact ⟨v, fp', e1, e2, fun a ha => List.mem_append_right _ (e3 a ha)⟩) r k d e
theorem Rds.append {h : Heap} {vs ds fp ws es fq} (r : Rds h vs ds fp) (q : Rds h ws es fq) : Rds h (vs ++ ws) (ds ++ es) (fp ++ fq) :=
  Rds.ind (Q := fun vs ds fp => Rds h (vs ++ ws) (ds ++ es) (fp ++ fq)) q (fun {v vs d ds as bs} h1 _ ih => List.append_assoc as bs fq ▸ Rds.cons h1 ih) r
theorem Rds.take {h : Heap} {vs ds fp} (r : Rds h vs ds fp) : ∀ k, RdsS h (vs.take k) (ds.take k) fp :=
  Rds.ind (Q := fun vs ds fp => ∀ k, RdsS h (vs.take k) (ds.take k) fp) (fun k => by rw [List.take_nil, List.take_nil]; exact ⟨[], .nil, fun _ h => h⟩)
    (fun h1 h2 ih k => by
      cases k with
      | zero => exact ⟨[], .nil, fun _ h => nomatch h⟩
      | succ k =>
        obtain ⟨fp', r, s⟩ := ih k
        exact ⟨_, .cons h1 r, fun a ha => (List.mem_append.mp ha).elim (fun x => List.mem_append_left _ x) fun x => List.mem_append_right _ (s a x)⟩) r
theorem Rds.drop {h : Heap} {vs ds fp} (r : Rds h vs ds fp) : ∀ k, RdsS h (vs.drop k) (ds.drop k) fp :=
  Rds.ind (Q := fun vs ds fp => ∀ k, RdsS h (vs.drop k) (ds.drop k) fp) (fun k => by rw [List.drop_nil, List.drop_nil]; exact ⟨[], .nil, fun _ h => h⟩)
    (fun h1 h2 ih k => by
      cases k with
      | zero => exact ⟨_, .cons h1 h2, fun _ h => h⟩
      | succ k =>
        obtain ⟨fp', r, s⟩ := ih k
        exact ⟨fp', r, fun a ha => List.mem_append_right _ (s a ha)⟩) r
theorem Rd.readss {h : Heap} : (∀ {v d fp}, Rd h v d fp → d.canLay0 = true → ∃ as, Reads h v d as) ∧ ∀ {vs ds fp}, Rds h vs ds fp → PyData.canLayAll0 ds = true → ∃ as, ReadsAll h vs ds as :=
  Rd.ind (P := fun v d _ => d.canLay0 = true → ∃ as, Reads h v d as) (Q := fun vs ds _ => PyData.canLayAll0 ds = true → ∃ as, ReadsAll h vs ds as)
    (fun _ => ⟨_, .none⟩) (fun b _ => ⟨_, .bool b⟩) (fun i t _ => ⟨_, .int i t⟩) (fun x t _ => ⟨_, .str x t⟩)
    (fun h1 h2 k => by
      obtain ⟨as, r⟩ := h2 k
      obtain ⟨o, n, e, hc, _, hd⟩ := h1
      exact ⟨_, .list e hc hd r⟩)
    (fun h1 h2 k => by
      obtain ⟨as, r⟩ := h2 k
      obtain ⟨o, e, hc, n, hd⟩ := h1
      exact ⟨_, .tuple e hc hd r⟩)
    (fun _ _ k => Bool.noConfusion (show false = true from k)) (fun _ => ⟨_, .nil⟩)
    (fun h1 h2 k => by
      have k := Bool.and_eq_true_iff.mp k
      obtain ⟨as, r⟩ := h1 k.1
      obtain ⟨bs, q⟩ := h2 k.2
      exact ⟨_, .cons r q⟩)
theorem Rd.reads {h : Heap} {v : Value} {d : PyData} {fp : List Addr} (r : Rd h v d fp) (k : d.canLay0 = true) : ∃ as, Reads h v d as := Rd.readss.1 r k
theorem Rds.reads {h : Heap} {v : List Value} {d : List PyData} {fp : List Addr} (r : Rds h v d fp) (k : PyData.canLayAll0 d = true) : ∃ as, ReadsAll h v d as := Rd.readss.2 r k
inductive RefInv (h : Heap) (a : Addr) : PyData → Prop
  | list (vs xs as) : PlainL h a (List.toArray vs) → Rds h vs xs as → RefInv h a (.list xs)
  | tuple (vs xs as) : IsTup h a (List.toArray vs) → Rds h vs xs as → RefInv h a (.tuple xs)
  | dict (f kvs) : h.IntMap a f → RefInv h a (.dict kvs)
theorem Rd.ref_inv {h : Heap} {a : Addr} {d : PyData} {fp : List Addr} (r : Rd h (.ref a) d fp) : RefInv h a d := by
  cases r with
  | list x y => exact .list _ _ _ x y
  | tuple x y => exact .tuple _ _ _ x y
  | dict x y => exact .dict _ _ x
theorem seq_eq {o : Obj} {vs us : List Value} {n n' : Nat} (h : o.data = .seq (List.toArray vs) n) (h' : o.data = .seq (List.toArray us) n') : vs = us :=
  congrArg Array.toList (Data.seq.inj (h.symm.trans h')).1
theorem l_same {h : Heap} {a : Addr} {vs us : List Value} (x : PlainL h a (List.toArray vs)) (y : PlainL h a (List.toArray us)) : vs = us := by
  obtain ⟨o, n, e, hc, _, hd⟩ := x
  obtain ⟨o', n', e', hc', _, hd'⟩ := y
  cases e.symm.trans e'
  exact seq_eq hd hd'
theorem t_same {h : Heap} {a : Addr} {vs us : List Value} (x : IsTup h a (List.toArray vs)) (y : IsTup h a (List.toArray us)) : vs = us := by
  obtain ⟨o, e, hc, n, hd⟩ := x
  obtain ⟨o', e', hc', n', hd'⟩ := y
  cases e.symm.trans e'
  exact seq_eq hd hd'
theorem l_not_t {h : Heap} {a : Addr} {vs us : List Value} (x : PlainL h a (List.toArray vs)) (y : IsTup h a (List.toArray us)) : False := by
  obtain ⟨o, n, e, hc, _, hd⟩ := x
  obtain ⟨o', e', hc', n', hd'⟩ := y
  cases e.symm.trans e'
  rw [hc] at hc'; simp at hc'
theorem l_not_d {h : Heap} {a : Addr} {vs : List Value} {f : Int → Option Value} (x : PlainL h a (List.toArray vs)) (y : h.IntMap a f) : False := by
  obtain ⟨o, n, e, hc, _, hd⟩ := x
  obtain ⟨o', es, ep, e', _, hd', _⟩ := y
  cases e.symm.trans e'
  rw [hd] at hd'; cases hd'
theorem t_not_d {h : Heap} {a : Addr} {vs : List Value} {f : Int → Option Value} (x : IsTup h a (List.toArray vs)) (y : h.IntMap a f) : False := by
  obtain ⟨o, e, hc, n, hd⟩ := x
  obtain ⟨o', es, ep, e', _, hd', _⟩ := y
  cases e.symm.trans e'
  rw [hd] at hd'; cases hd'
theorem Rd.dets {h : Heap} : (∀ {v d fp}, Rd h v d fp → ∀ d' fp', Rd h v d' fp' → (∀ kvs, d ≠ .dict kvs) → d.canLay0 = true → d = d') ∧ ∀ {vs ds fp}, Rds h vs ds fp → ∀ ds' fp', Rds h vs ds' fp' → PyData.canLayAll0 ds = true → ds = ds' :=
  Rd.ind (P := fun v d _ => ∀ d' fp', Rd h v d' fp' → (∀ kvs, d ≠ .dict kvs) → d.canLay0 = true → d = d') (Q := fun vs ds _ => ∀ ds' fp', Rds h vs ds' fp' → PyData.canLayAll0 ds = true → ds = ds')
    (fun _ _ r _ _ => by cases r; rfl) (fun b _ _ r _ _ => by cases r; rfl) (fun i t _ _ r _ _ => by cases r; rfl) (fun x t _ _ r _ _ => by cases r; rfl)
    (fun h1 h2 _ _ r _ c => by
      cases r.ref_inv with
      | list us xs as k1 k2 => cases l_same h1 k1; exact congrArg PyData.list (h2 _ _ k2 c)
      | tuple us xs as k1 k2 => exact (l_not_t h1 k1).elim
      | dict f kvs k1 => exact (l_not_d h1 k1).elim)
    (fun h1 h2 _ _ r _ c => by
      cases r.ref_inv with
      | list us xs as k1 k2 => exact (l_not_t k1 h1).elim
      | tuple us xs as k1 k2 => cases t_same h1 k1; exact congrArg PyData.tuple (h2 _ _ k2 c)
      | dict f kvs k1 => exact (t_not_d h1 k1).elim)
    (fun _ _ _ _ _ k _ => absurd rfl (k _)) (fun _ _ r _ => by cases r; rfl)
    (fun h1 h2 _ _ r c => by
      cases r with
      | cons k1 k2 =>
        have c := Bool.and_eq_true_iff.mp c
        rw [h1 _ _ k1 (fun kvs e => by subst e; exact Bool.noConfusion (show false = true from c.1)) c.1, h2 _ _ k2 c.2])
theorem Rd.det {h : Heap} {v : Value} {d d' : PyData} {fp fp' : List Addr} (r : Rd h v d fp) (r' : Rd h v d' fp') (k : ∀ kvs, d ≠ .dict kvs) (c : d.canLay0 = true) : d = d' := Rd.dets.1 r _ _ r' k c
end Mine

namespace Mine
open PySem PyProof.Rows
set_option autoImplicit false
noncomputable def VarAt (env : Env) (h : Heap) (x : Str) (v : Value) : Prop :=
  (env.kindOf x = some .local ∧ ∃ m, h.Ns env.locals m ∧ m x = some v) ∨
  ((env.kindOf x = some .cell ∨ env.kindOf x = some .free) ∧ ∃ c, env.cells.lookup x = some c ∧ h.IsCell c (some v))
theorem VarAt.keeps {env : Env} {h h' : Heap} {x : Str} {v : Value} (V : VarAt env h x v) (k : Keep h h') : VarAt env h' x v := by
  rcases V with ⟨h1, m, h2, h3⟩ | ⟨h1, c, h2, h3⟩
  · exact .inl ⟨h1, m, h2.keeps k, h3⟩
  · exact .inr ⟨h1, c, h2, h3.keeps k⟩
theorem VarAt.load {M : Model} {A : Around} {E : Value → Shared → Prop} {s : Shared} {env : Env} {x : Str} {v : Value} {Q : Value → Shared → Prop} (V : VarAt env s.heap x v) (hk : env.scope.kind = .function)
    (hn : (x == ("__classdict__" : Str)) = false) (h : Q v s) : wpAny M A (loadName env x) Q E s := by
  rcases V with ⟨h1, m, h2, h3⟩ | ⟨h1 | h1, c, h2, h3⟩
  · exact wpAny_loadName_local hk h1 h2 h3 h
  · exact wpAny_loadName_cell hk h1 h2 h3 h
  · exact wpAny_loadName_free hk h1 h2 h3 h hn
structure FnSpec where
  fd : FD
  names : List Str
  scope : Scope
  body : List Stmt
inductive FnEx (h : Heap) (a : Addr) (sp : FnSpec) : Prop
  | mk (o : Obj) (fd : FuncData) (h1 : h.get? a = some o) (h2 : o.data = .func fd) (h3 : fd.body = .stmts sp.body) (h4 : fd.scope = sp.scope) (h5 : fd.globals = mainGlobals) (h6 : fd.builtins = builtinsNs) (h7 : fd.closure = []) (h8 : h.CodeRec fd.code fd.qualname)
    (h9 : ∀ vs : List Value, vs.length = sp.fd.np → bindArgs fd ⟨vs, []⟩ = pure ((sp.names.take sp.fd.np).zip vs)) : FnEx h a sp
structure FnAt (h : Heap) (a : Addr) (sp : FnSpec) : Prop where
  ex : FnEx h a sp
theorem FnAt.keeps {h h' : Heap} {a : Addr} {sp : FnSpec} (x : FnAt h a sp) (k : Keep h h') : FnAt h' a sp := by
  obtain ⟨o, fd, h1, h2, h3, h4, h5, h6, h7, h8, h9⟩ := x.ex
  exact ⟨o, fd, k _ _ h1, h2, h3, h4, h5, h6, h7, h8.keeps k, h9⟩
structure Mod where
  mg : Str → Option Value
  mb : Str → Option Value
  fns : List (Str × Addr)
  twos : List Nat
  specs : List FnSpec
  tp : Addr
  tc : Addr
  tps : Array Value
inductive Two (h0 h : Heap) (v : Value) : Prop
  | mk (t a1 a2 : Addr) (x y : Value) (e : v = .ref t) (h1 : IsTup h t #[.ref a1, .ref a2, x, y]) (h2 : a1 ≠ a2) (h3 : h0.get? a1 = none) (h4 : h0.get? a2 = none) (h5 : h0.get? t = none) : Two h0 h v
structure Mod.Ok (m : Mod) : Prop where
  bi : ∀ x ∈ (["len", "abs", "sum", "all"] : List String), m.mg (Str.ofString x) = none ∧ m.mb (Str.ofString x) = some (.builtin x)
  ty : ∀ x ∈ (["list", "range", "dict", "type", "str", "int", "tuple", "ValueError"] : List String), m.mg (Str.ofString x) = none ∧ m.mb (Str.ofString x) = some (.type x)
  fn : ∀ x a, (x, a) ∈ m.fns → m.mg x = some (.ref a)
structure Mod.In (m : Mod) (h : Heap) : Prop where
  g : h.Ns mainGlobals m.mg
  b : h.Ns builtinsNs m.mb
  nolimit : h.NoLimit
  nodigits : ∃ mc, h.Ns cStatics mc ∧ mc "sys.int_max_str_digits" = none
  fn : ∀ x a, (x, a) ∈ m.fns → ∃ o fd, h.get? a = some o ∧ o.data = .func fd
  code : ∀ (f : Nat) x a sp, m.fns[f]? = some (x, a) → m.specs[f]? = some sp → FnAt h a sp
theorem Mod.In.keeps {m : Mod} {h h' : Heap} (x : m.In h) (k : Keep h h') : m.In h' where
  g := x.g.keeps k
  b := x.b.keeps k
  nolimit := x.nolimit.keeps k
  nodigits := let ⟨mc, h1, h2⟩ := x.nodigits; ⟨mc, h1.keeps k, h2⟩
  fn := fun y a e => let ⟨o, fd, h1, h2⟩ := x.fn y a e; ⟨o, fd, k _ _ h1, h2⟩
  code := fun f y a sp e1 e2 => (x.code f y a sp e1 e2).keeps k
structure AOk (n : Nat) (A : Around) : Prop where
  handled : A.handled = none
  depth : A.depth + n < recursionLimit
  units : A.units + 20 * n + 200 < cLine
structure CE where
  A : Around
  env : Env
  names : List Str
  own : List Nat
  U : Addr → Prop
  W : List Addr
inductive OwnAt (W : List Addr) (v : Value) (fp : List Addr) : Prop
  | mk (a : Addr) (as : List Addr) (h1 : v = .ref a) (h2 : fp = a :: as) (h3 : a ∈ W) (h4 : ∀ b ∈ as, b ∉ W) : OwnAt W v fp
inductive ValsAt (c : CE) (s : Shared) (i : Nat) (d : PyData) : Prop
  | mk (x : Str) (v : Value) (fp : List Addr) (h1 : c.names[i]? = some x) (h2 : VarAt c.env s.heap x v) (h3 : Rd s.heap v d fp) (h4 : ∀ a ∈ fp, c.U a) (h5 : i ∉ c.own → ∀ a ∈ fp, a ∉ c.W) (h6 : i ∈ c.own → OwnAt c.W v fp) : ValsAt c s i d
structure SatE (m : Mod) (c : CE) (σ : Store) (s : Shared) : Prop where
  md : m.In s.heap
  fresh : ∀ a, s.heap.get? a = none → c.U a ∧ a ∉ c.W
  vals : ∀ i d, σ.get i = some d → ValsAt c s i d
theorem none_of_keep {h h' : Heap} (k : Keep h h') {a : Addr} (e : h'.get? a = none) : h.get? a = none := by
  cases q : h.get? a with
  | none => rfl
  | some o => have := k a o q; rw [e] at this; cases this
theorem SatE.mono {m : Mod} {c : CE} {σ : Store} {s s' : Shared} (S : SatE m c σ s) (k : Keep s.heap s'.heap) : SatE m c σ s' where
  md := S.md.keeps k
  fresh := fun a e => S.fresh a (none_of_keep k e)
  vals := fun i d e => by
    obtain ⟨x, v, fp, h1, h2, h3, h4, h5, h6⟩ := S.vals i d e
    exact ⟨x, v, fp, h1, h2.keeps k, h3.keeps k, h4, h5, h6⟩
theorem Keeps.keep {s s' : Shared} (k : Keeps s s') : Keep s.heap s'.heap := by
  obtain ⟨h', tk, rfl, k⟩ := k; exact k
theorem Keeps.rfl' (s : Shared) : Keeps s s := ⟨s.heap, s.toks, rfl, fun _ _ e => e⟩
theorem Keeps.trans' {s s' s'' : Shared} (k : Keeps s s') (k' : Keeps s' s'') : Keeps s s'' := by
  obtain ⟨h', tk, rfl, k⟩ := k
  obtain ⟨h'', tk', rfl, k'⟩ := k'
  exact ⟨h'', tk', rfl, fun b o e => k' b o (k b o e)⟩
theorem Keeps.tok (s : Shared) (t : Nat) : Keeps s { s with toks := t } := ⟨s.heap, t, rfl, fun _ _ e => e⟩
theorem Keeps.push (s : Shared) (o : Obj) : Keeps s { s with heap := s.heap.push o } := ⟨_, _, rfl, fun _ _ e => Heap.get?_push_of_some _ e⟩
structure Out (c : CE) (s s' : Shared) (v : Value) (d : PyData) (cl inn tf : Bool) (fp : List Addr) : Prop where
  kp : Keeps s s'
  rd : Rd s'.heap v d fp
  u : ∀ a ∈ fp, c.U a
  cl : cl = true → ∀ a ∈ fp, a ∉ c.W
  inn : inn = true → ∀ a ∈ fp.tail, a ∉ c.W
  tf : tf = true → ∃ a as, v = .ref a ∧ fp = a :: as ∧ s.heap.get? a = none ∧ a ∉ as
theorem Out.later {c : CE} {s s' s'' : Shared} {v : Value} {d : PyData} {cl inn tf : Bool} {fp : List Addr} (o : Out c s s' v d cl inn tf fp) (k : Keeps s' s'') : Out c s s'' v d cl inn tf fp :=
  ⟨Keeps.trans' o.kp k, o.rd.keeps (Keeps.keep k), o.u, o.cl, o.inn, o.tf⟩
theorem Out.scalar {c : CE} {s s' : Shared} {v : Value} {d : PyData} {cl inn : Bool} (k : Keeps s s') (r : Rd s'.heap v d []) : Out c s s' v d cl inn false [] :=
  ⟨k, r, fun _ h => (nomatch h), fun _ _ h => (nomatch h), fun _ _ h => (nomatch h), fun h => (nomatch h)⟩
noncomputable def isVar (e : PE) : Bool := Nat.beq e.ctorIdx 4
mutual
noncomputable def PE.clean (own : List Nat) : PE → Bool
  | .var i => !own.contains i
  | .ite _ a b => PE.clean own a && PE.clean own b
  | .idx a _ => isVar a || PE.clean own a
  | .last a => isVar a || PE.clean own a
  | .cat a b => (isVar a || PE.clean own a) && (isVar b || PE.clean own b)
  | .slLH a _ _ => isVar a || PE.clean own a
  | .slH a _ => isVar a || PE.clean own a
  | .slL a _ => isVar a || PE.clean own a
  | .listOf a => isVar a || PE.clean own a
  | .list es => PEs.clean own es
  | .tuple es => PEs.clean own es
  | .call _ es => PEs.clean own es
  | _ => true
noncomputable def PEs.clean (own : List Nat) : PEs → Bool
  | .nil => true
  | .cons e es => PE.clean own e && PEs.clean own es
end
noncomputable def PE.tf (e : PE) : Bool := Nat.beq e.ctorIdx 11 || Nat.beq e.ctorIdx 12 || Nat.ble 22 e.ctorIdx && Nat.ble e.ctorIdx 25 || Nat.beq e.ctorIdx 30 || Nat.beq e.ctorIdx 34
section
variable (prog : Program) (w : World) (m : Mod) (Φ : Nat → List PyData → Option PyData)
noncomputable def SoundE (c : CE) (pe : PE) (e : Expr) : Prop :=
  ∀ σ d s, denE Φ pe σ = some d → SatE m c σ s → ∀ (Q : Value → Shared → Prop) (E : Value → Shared → Prop),
    (∀ v s' fp, Out c s s' v d (pe.clean c.own) (isVar pe || pe.clean c.own) pe.tf fp → Q v s') → wpAny (model prog w) c.A (eval e c.env) Q E s
noncomputable def SoundC (c : CE) (pc : PC) (e : Expr) : Prop :=
  ∀ σ b s, denC Φ pc σ = some b → SatE m c σ s → ∀ (Q : Bool → Shared → Prop) (E : Value → Shared → Prop),
    (∀ s', Keeps s s' → Q b s') → wpAny (model prog w) c.A (isTrue e c.env (eval e c.env)) Q E s
structure Outs (c : CE) (s s' : Shared) (vs : List Value) (ds : List PyData) (cl : Bool) (fp : List Addr) : Prop where
  kp : Keeps s s'
  rd : Rds s'.heap vs ds fp
  u : ∀ a ∈ fp, c.U a
  cl : cl = true → ∀ a ∈ fp, a ∉ c.W
noncomputable def SoundEs (c : CE) (pes : PEs) (es : List Expr) : Prop :=
  ∀ pos σ ds s, denEs Φ pes σ = some ds → SatE m c σ s → ∀ (Q : List Value → Shared → Prop) (E : Value → Shared → Prop),
    (∀ vs s' fp, Outs c s s' vs ds (pes.clean c.own) fp → Q vs s') → wpAny (model prog w) c.A (spliced (backTo pos (starEach es c.env))) Q E s
end
theorem SatE.inner {m : Mod} {c : CE} {σ : Store} {s : Shared} (S : SatE m c σ s) {i : Nat} {d : PyData} (e : σ.get i = some d) :
    ∃ x v fp, c.names[i]? = some x ∧ VarAt c.env s.heap x v ∧ Rd s.heap v d fp ∧ (∀ a ∈ fp, c.U a) ∧ (i ∉ c.own → ∀ a ∈ fp, a ∉ c.W) ∧ (∀ a ∈ fp.tail, a ∉ c.W) := by
  obtain ⟨x, v, fp, h1, h2, h3, h4, h5, h6⟩ := S.vals i d e
  refine ⟨x, v, fp, h1, h2, h3, h4, h5, fun a ha => ?_⟩
  by_cases ho : i ∈ c.own
  · obtain ⟨b, as, _, rfl, _, q⟩ := h6 ho
    exact q a ha
  · exact h5 ho a (List.mem_of_mem_tail ha)
section
variable {prog : Program} {w : World} {m : Mod} {Φ : Nat → List PyData → Option PyData} {c : CE}
theorem e_none {k pos} : SoundE prog w m Φ c .none (.Constant .none k pos) := fun σ d s hd S Q E h => by
  simp only [q_none, Option.some.injEq] at hd; subst hd
  exact fun _ _ _ => h _ _ _ (Out.scalar (Keeps.rfl' s) .none)
theorem e_bool {b k pos} : SoundE prog w m Φ c (.bool b) (.Constant (.bool b) k pos) := fun σ d s hd S Q E h => by
  simp only [q_bool, Option.some.injEq] at hd; subst hd
  exact fun _ _ _ => h _ _ _ (Out.scalar (Keeps.rfl' s) (.bool b))
theorem e_int {i k pos} : SoundE prog w m Φ c (.int i) (.Constant (.int i) k pos) := fun σ d s hd S Q E h => by
  simp only [q_int, Option.some.injEq] at hd; subst hd
  exact wpAny_Constant_int (h _ _ _ (Out.scalar (Keeps.tok s _) (.int i _)))
theorem e_str {x k pos} : SoundE prog w m Φ c (.str x) (.Constant (.str x) k pos) := fun σ d s hd S Q E h => by
  simp only [q_str, Option.some.injEq] at hd; subst hd
  exact Calls.Constant_str (h _ _ _ (Out.scalar (Keeps.tok s _) (.str x _)))
theorem e_var {i x pos} (hk : c.env.scope.kind = .function) (hx : c.names[i]? = some x) (hn : (x == ("__classdict__" : Str)) = false) (hd' : (x == ("__debug__" : Str)) = false) :
    SoundE prog w m Φ c (.var i) (.Name x pos) := fun σ d s hd S Q E h => by
  simp only [q_var] at hd
  obtain ⟨y, v, fp, h1, h2, h3, h4, h5, h6⟩ := S.inner hd
  rw [hx] at h1; cases h1
  refine wpAny_Name (h2.load hk hn (h v s fp ⟨Keeps.rfl' s, h3, h4, fun hc => h5 ?_, fun _ => h6, fun ht => (nomatch ht)⟩)) hd'
  have hc' : (!c.own.contains i) = true := hc
  simpa using hc'
theorem ev1 {a : PE} {e : Expr} (ha : SoundE prog w m Φ c a e) {σ : Store} {x : PyData} {s : Shared} (hx : denE Φ a σ = some x) (S : SatE m c σ s) {Q : Value → Shared → Prop} {E : Value → Shared → Prop}
    (h : ∀ v s' fp, Out c s s' v x (a.clean c.own) (isVar a || a.clean c.own) a.tf fp → SatE m c σ s' → Q v s') : wpAny (model prog w) c.A (eval e c.env) Q E s :=
  ha σ x s hx S Q E fun v s' fp o => h v s' fp o (S.mono (Keeps.keep o.kp))
theorem ev2 {a b : PE} {e f : Expr} (ha : SoundE prog w m Φ c a e) (hb : SoundE prog w m Φ c b f) {σ : Store} {x y : PyData} {s : Shared} (hx : denE Φ a σ = some x) (hy : denE Φ b σ = some y) (S : SatE m c σ s)
    {Q : Value → Value → Shared → Prop} {E : Value → Shared → Prop}
    (h : ∀ v u s' fp fq, Out c s s' v x (a.clean c.own) (isVar a || a.clean c.own) a.tf fp → Out c s s' u y (b.clean c.own) (isVar b || b.clean c.own) false fq → SatE m c σ s' → Q v u s') :
    wpAny (model prog w) c.A (eval e c.env) (fun v s₁ => wpAny (model prog w) c.A (eval f c.env) (fun u s₂ => Q v u s₂) E s₁) E s :=
  ev1 ha hx S fun v s₁ fp o S₁ => ev1 hb hy S₁ fun u s₂ fq o₂ S₂ => h v u s₂ fp fq (o.later o₂.kp) ⟨Keeps.trans' o.kp o₂.kp, o₂.rd, o₂.u, o₂.cl, o₂.inn, fun h => (nomatch h)⟩ S₂
end
end Mine

namespace Mine
open PySem PyProof.Rows
set_option autoImplicit false
set_option maxRecDepth 10000
theorem lim_le : lim ≤ sizeLine := by unfold lim sizeLine; decide
section
variable {prog : Program} {w : World} {m : Mod} {Φ : Nat → List PyData → Option PyData} {c : CE} {l r : Expr} {a b : PE} {pos : Pos}
theorem plainL_push (h : Heap) (vs : List Value) (n : Nat) : PlainL (h.push { cls := .type "list", data := .seq vs.toArray n }) h.objs.size vs.toArray :=
  ⟨_, n, Heap.get?_push_size _ rfl, rfl, rfl, rfl⟩
theorem isTup_push (h : Heap) (vs : List Value) (n : Nat) : IsTup (h.push { cls := .type "tuple", data := .seq vs.toArray n }) h.objs.size vs.toArray :=
  ⟨_, Heap.get?_push_size _ rfl, rfl, n, rfl⟩
theorem size_fresh (h : Heap) : h.get? h.objs.size = none := by
  cases e : h.get? h.objs.size with
  | none => rfl
  | some o => exact absurd (Heap.lt_size e) (Nat.lt_irrefl _)
theorem not_mem_fp {h : Heap} {vs ds fp} (r : Rds h vs ds fp) {x : Addr} (e : h.get? x = none) : x ∉ fp := fun hm => by
  obtain ⟨o, ho⟩ := r.dom x hm; rw [e] at ho; cases ho
theorem Out.newList {s s' : Shared} {vs : List Value} {ds : List PyData} {fp : List Addr} {σ : Store} {cl : Bool} {n : Nat} (S : SatE m c σ s') (k : Keeps s s') (r : Rds s'.heap vs ds fp) (u : ∀ a ∈ fp, c.U a) (hcl : cl = true → ∀ a ∈ fp, a ∉ c.W) :
    Out c s { s' with heap := s'.heap.push { cls := .type "list", data := .seq vs.toArray n } } (.ref s'.heap.objs.size) (.list ds) cl cl true (s'.heap.objs.size :: fp) := by
  have hf := size_fresh s'.heap
  have hw := S.fresh _ hf
  refine ⟨Keeps.trans' k (Keeps.push s' _), .list (plainL_push _ _ _) (r.keeps fun b o e => Heap.get?_push_of_some _ e), ?_, ?_, hcl, fun _ => ⟨_, _, rfl, rfl, none_of_keep (Keeps.keep k) hf, not_mem_fp r hf⟩⟩
  · intro a ha
    rcases List.mem_cons.mp ha with rfl | ha
    · exact hw.1
    · exact u a ha
  · intro h a ha
    rcases List.mem_cons.mp ha with rfl | ha
    · exact hw.2
    · exact hcl h a ha
theorem nn {α : Type} {a : α} (h : (none : Option α) = some a) : False := nomatch h
theorem bind1 {α β : Type} {o : Option α} {f : α → Option β} {d : β} (h : o.bind f = some d) : ∃ x, o = some x ∧ f x = some d := by
  cases o with
  | none => exact (nn h).elim
  | some x => exact ⟨x, rfl, h⟩
theorem bind2 {α β γ : Type} {o : Option α} {q : Option β} {f : α → β → Option γ} {d : γ} (h : (o.bind fun x => q.bind fun y => f x y) = some d) : ∃ x y, o = some x ∧ q = some y ∧ f x y = some d := by
  obtain ⟨x, h1, h⟩ := bind1 h
  obtain ⟨y, h2, h⟩ := bind1 h
  exact ⟨x, y, h1, h2, h⟩
theorem rd_int {h : Heap} {v : Value} {i : Int} {fp : List Addr} (r : Rd h v (.int i) fp) : ∃ t, v = .int i t := by
  cases r; exact ⟨_, rfl⟩
theorem bind2' {α β γ : Type} {o : Option α} {q : Option β} {f : α → β → Option γ} {d : γ} (h : (o.bind fun x => q.bind fun y => f x y) = some d) : ∃ x, o = some x ∧ ∃ y, q = some y ∧ f x y = some d := by
  obtain ⟨x, y, h1, h2, h3⟩ := bind2 h
  exact ⟨x, h1, y, h2, h3⟩
theorem if_inv {α : Type} {p : Prop} [Decidable p] {a d : α} (h : (if p then some a else none) = some d) : p ∧ d = a := by
  by_cases hp : p
  · rw [if_pos hp] at h; exact ⟨hp, (Option.some.inj h).symm⟩
  · rw [if_neg hp] at h; exact (nn h).elim
theorem rd_str {h : Heap} {v : Value} {x : Str} {fp : List Addr} (r : Rd h v (.str x) fp) : ∃ t, v = .str x t := by
  cases r; exact ⟨_, rfl⟩
theorem rd_list {h : Heap} {v : Value} {xs : List PyData} {fp : List Addr} (r : Rd h v (.list xs) fp) : ∃ a vs as, v = .ref a ∧ fp = a :: as ∧ PlainL h a (List.toArray vs) ∧ Rds h vs xs as := by
  cases r with
  | list x y => exact ⟨_, _, _, rfl, rfl, x, y⟩
theorem dCat_inv {x y d : PyData} (h : dCat x y = some d) : ∃ xs ys, x = .list xs ∧ y = .list ys ∧ xs.length + ys.length ≤ lim ∧ d = .list (xs ++ ys) := by
  cases x <;> try exact (nn h).elim
  cases y <;> try exact (nn h).elim
  exact ⟨_, _, rfl, rfl, if_inv h⟩
theorem dRepl_inv {x y d : PyData} (h : dRepl x y = some d) : ∃ c n, x = .int c ∧ y = .int n ∧ n.natAbs ≤ 1048576 ∧ d = .list (List.replicate n.toNat (.int c)) := by
  cases x <;> try exact (nn h).elim
  cases y <;> try exact (nn h).elim
  exact ⟨_, _, rfl, rfl, if_inv h⟩
theorem dScat_inv {x y d : PyData} (h : dScat x y = some d) : ∃ a b, x = .str a ∧ y = .str b ∧ a.length + b.length ≤ lim ∧ d = .str (a ++ b) := by
  cases x <;> try exact (nn h).elim
  cases y <;> try exact (nn h).elim
  exact ⟨_, _, rfl, rfl, if_inv h⟩
theorem dAdd_inv {x y d : PyData} (h : dAdd x y = some d) : ∃ i j, x = .int i ∧ y = .int j ∧ d = .int (i + j) := by
  cases x <;> try exact (nn h).elim
  cases y <;> try exact (nn h).elim
  cases h
  exact ⟨_, _, rfl, rfl, rfl⟩
theorem e_add (ha : SoundE prog w m Φ c a l) (hb : SoundE prog w m Φ c b r) : SoundE prog w m Φ c (.add a b) (.BinOp l .Add r pos) := fun σ d s hd S Q E h => by
  obtain ⟨x, y, hx, hy, hd⟩ := bind2 hd
  obtain ⟨i, j, rfl, rfl, rfl⟩ := dAdd_inv hd
  refine wpAny_BinOp (ev2 ha hb hx hy S fun v u s' fp fq o p S' => ?_)
  obtain ⟨t, rfl⟩ := rd_int o.rd
  obtain ⟨t', rfl⟩ := rd_int p.rd
  exact P.add_int (h _ _ _ (Out.scalar (Keeps.trans' o.kp (Keeps.tok _ _)) (.int _ _)))
theorem dSub_inv {x y d : PyData} (h : dSub x y = some d) : ∃ i j, x = .int i ∧ y = .int j ∧ d = .int (i - j) := by
  cases x <;> try exact (nn h).elim
  cases y <;> try exact (nn h).elim
  cases h
  exact ⟨_, _, rfl, rfl, rfl⟩
theorem e_sub (ha : SoundE prog w m Φ c a l) (hb : SoundE prog w m Φ c b r) : SoundE prog w m Φ c (.sub a b) (.BinOp l .Sub r pos) := fun σ d s hd S Q E h => by
  obtain ⟨x, y, hx, hy, hd⟩ := bind2 hd
  obtain ⟨i, j, rfl, rfl, rfl⟩ := dSub_inv hd
  refine wpAny_BinOp (ev2 ha hb hx hy S fun v u s' fp fq o p S' => ?_)
  obtain ⟨t, rfl⟩ := rd_int o.rd
  obtain ⟨t', rfl⟩ := rd_int p.rd
  exact P.sub_int (h _ _ _ (Out.scalar (Keeps.trans' o.kp (Keeps.tok _ _)) (.int _ _)))
theorem intBits_small {k : Int} (h : k.natAbs < 4294967296) : Builtin.Int.intBits k ≤ 64 := by
  unfold Builtin.Int.intBits
  split
  · exact Nat.zero_le _
  · rename_i hk
    have h0 : k.natAbs ≠ 0 := by
      intro e; apply hk; simp [Int.natAbs_eq_zero.mp e]
    have : k.natAbs.log2 < 32 := (Nat.log2_lt h0).mpr h
    lia
theorem dMulc_inv {k : Int} {x d : PyData} (h : dMulc k x = some d) : ∃ i, x = .int i ∧ k.natAbs < 4294967296 ∧ d = .int (k * i) := by
  cases x <;> try exact (nn h).elim
  rename_i i
  by_cases hk : k.natAbs < 4294967296
  · have h' : (if k.natAbs < 4294967296 then some (PyData.int (k * i)) else none) = some d := h
    rw [if_pos hk] at h'
    exact ⟨i, rfl, hk, (Option.some.inj h').symm⟩
  · have h' : (if k.natAbs < 4294967296 then some (PyData.int (k * i)) else none) = some d := h
    rw [if_neg hk] at h'; exact (nn h').elim
theorem e_mulc {k : Int} {kk p1} (ha : SoundE prog w m Φ c a r) : SoundE prog w m Φ c (.mulc k a) (.BinOp (.Constant (.int k) kk p1) .Mult r pos) := fun σ d s hd S Q E h => by
  obtain ⟨x, hx, hd⟩ := bind1 hd
  obtain ⟨i, rfl, hk, rfl⟩ := dMulc_inv hd
  refine wpAny_BinOp (wpAny_Constant_int (ev1 ha hx (S.mono (s' := { s with toks := s.toks + 1 }) fun _ _ e => e) fun v s' fp o S' => ?_))
  obtain ⟨t, rfl⟩ := rd_int o.rd
  exact P.mul_int (h _ _ _ (Out.scalar (Keeps.trans' (Keeps.tok s _) (Keeps.trans' o.kp (Keeps.tok _ _))) (.int _ _))) (IntMulOk.of_left (intBits_small hk))
theorem dMod_inv {x y d : PyData} (h : dMod x y = some d) : ∃ i j, x = .int i ∧ y = .int j ∧ j ≠ 0 ∧ d = .int (i.fmod j) := by
  cases x <;> try exact (nn h).elim
  cases y <;> try exact (nn h).elim
  rename_i i j
  have h' : (if j = 0 then none else some (PyData.int (i.fmod j))) = some d := h
  by_cases hj : j = 0
  · rw [if_pos hj] at h'; exact (nn h').elim
  · rw [if_neg hj] at h'
    exact ⟨i, j, rfl, rfl, hj, (Option.some.inj h').symm⟩
theorem e_mod (ha : SoundE prog w m Φ c a l) (hb : SoundE prog w m Φ c b r) : SoundE prog w m Φ c (.mod a b) (.BinOp l .Mod r pos) := fun σ d s hd S Q E h => by
  obtain ⟨x, y, hx, hy, hd⟩ := bind2 hd
  obtain ⟨i, j, rfl, rfl, hj, rfl⟩ := dMod_inv hd
  refine wpAny_BinOp (ev2 ha hb hx hy S fun v u s' fp fq o p S' => ?_)
  obtain ⟨t, rfl⟩ := rd_int o.rd
  obtain ⟨t', rfl⟩ := rd_int p.rd
  exact mod_int' hj (h _ _ _ (Out.scalar (Keeps.trans' o.kp (Keeps.tok _ _)) (.int _ _)))
theorem noPylong2 (x : Int) : Builtin.divisionGoesByPylong x 2 = false := by
  unfold Builtin.divisionGoesByPylong
  have : (decide ((if ((2 : Int) == 0) = true then 0 else (2 : Int).natAbs.log2 / 30 + 1) > 300)) = false := by decide
  simp only [this, Bool.false_and]
theorem dDivc_inv {k : Int} {x d : PyData} (h : dDivc k x = some d) : ∃ i, x = .int i ∧ k = 2 ∧ d = .int (i.fdiv k) := by
  cases x <;> try exact (nn h).elim
  rename_i i
  have h' : (if k = 2 then some (PyData.int (i.fdiv k)) else none) = some d := h
  by_cases hk : k = 2
  · rw [if_pos hk] at h'
    exact ⟨i, rfl, hk, (Option.some.inj h').symm⟩
  · rw [if_neg hk] at h'; exact (nn h').elim
theorem e_divc {k : Int} {kk p1} (ha : SoundE prog w m Φ c a l) : SoundE prog w m Φ c (.divc a k) (.BinOp l .FloorDiv (.Constant (.int k) kk p1) pos) := fun σ d s hd S Q E h => by
  obtain ⟨x, hx, hd⟩ := bind1 hd
  obtain ⟨i, rfl, rfl, rfl⟩ := dDivc_inv hd
  refine wpAny_BinOp (ev1 ha hx S fun v s' fp o S' => wpAny_Constant_int ?_)
  obtain ⟨t, rfl⟩ := rd_int o.rd
  exact floordiv_int (by decide) (h _ _ _ (Out.scalar (Keeps.trans' o.kp (Keeps.trans' (Keeps.tok _ _) (Keeps.tok _ _))) (.int _ _))) (.inl (noPylong2 _))
theorem dNeg_inv {x d : PyData} (h : dNeg x = some d) : ∃ i, x = .int i ∧ d = .int (-i) := by
  cases x <;> try exact (nn h).elim
  cases h
  exact ⟨_, rfl, rfl⟩
theorem e_neg (ha : SoundE prog w m Φ c a l) : SoundE prog w m Φ c (.neg a) (.UnaryOp .USub l pos) := fun σ d s hd S Q E h => by
  obtain ⟨x, hx, hd⟩ := bind1 hd
  obtain ⟨i, rfl, rfl⟩ := dNeg_inv hd
  refine UnaryOp_ (ev1 ha hx S fun v s' fp o S' => ?_)
  obtain ⟨t, rfl⟩ := rd_int o.rd
  exact P.neg_int (h _ _ _ (Out.scalar (Keeps.trans' o.kp (Keeps.tok _ _)) (.int _ _)))
theorem plainL_list {h : Heap} {x : Addr} {its : Array Value} (p : PlainL h x its) : h.IsList x its := let ⟨o, n, e, hc, _, hd⟩ := p; ⟨o, e, hc, n, hd⟩
theorem listPlus {A : Around} {E : Value → Shared → Prop} {s : Shared} {x y : Addr} {vs ws : List Value} {Q : Value → Shared → Prop} (hl : s.heap.IsList x vs.toArray) (hb : s.heap.IsList y ws.toArray)
    (h : Q (.ref s.heap.objs.size) { s with heap := s.heap.push { cls := .type "list", data := .seq (vs ++ ws).toArray } }) (hsz : vs.length + ws.length ≤ sizeLine) :
    wpAny (model prog w) A (binaryOp .Add (.ref x) (.ref y)) Q E s := by
  obtain ⟨⟨cls, dd, data, sl⟩, ho, hc, n, hd⟩ := id hl
  obtain ⟨⟨cls2, dd2, data2, sl2⟩, ho2, hc2, n2, hd2⟩ := id hb
  simp only at hc hd hc2 hd2
  subst hc hd hc2 hd2
  have e : vs.toArray ++ ws.toArray = (vs ++ ws).toArray := by simp
  refine concat_meets ⟨_, ho, rfl⟩ ⟨_, ho2, rfl⟩ noFill_list_add seq_list_add PySem.F.slot_list_add PySem.F.entry_list_add (PySem.F.args_list_add_2 _ _) (list_addW x y vs.toArray ws.toArray n n2 dd dd2 sl sl2 (by simpa using hsz)) ⟨ho, ho2, ?_⟩
  rw [e]
  exact h
end
end Mine

namespace Mine
open PySem PyProof.Rows
set_option autoImplicit false
set_option maxRecDepth 10000
section
variable {prog : Program} {w : World} {m : Mod} {Φ : Nat → List PyData → Option PyData} {c : CE} {l r : Expr} {a b : PE} {pos : Pos}
theorem e_cat (ha : SoundE prog w m Φ c a l) (hb : SoundE prog w m Φ c b r) : SoundE prog w m Φ c (.cat a b) (.BinOp l .Add r pos) := fun σ d s hd S Q E h => by
  obtain ⟨x, y, hx, hy, hd⟩ := bind2 hd
  obtain ⟨xs, ys, rfl, rfl, hsz, rfl⟩ := dCat_inv hd
  refine wpAny_BinOp (ev2 ha hb hx hy S fun v u s' fp fq o p S' => ?_)
  obtain ⟨a1, vs, as, rfl, rfl, p1, r1⟩ := rd_list o.rd
  obtain ⟨a2, ws, bs, rfl, rfl, p2, r2⟩ := rd_list p.rd
  refine listPlus (plainL_list p1) (plainL_list p2) (h _ _ _ (Out.newList (cl := PE.clean c.own (.cat a b)) S' o.kp (r1.append r2) ?_ ?_)) ?_
  · intro z hz
    rcases List.mem_append.mp hz with hz | hz
    · exact o.u z (.tail _ hz)
    · exact p.u z (.tail _ hz)
  · intro hc z hz
    have hc := Bool.and_eq_true_iff.mp (show ((isVar a || PE.clean c.own a) && (isVar b || PE.clean c.own b)) = true from hc)
    rcases List.mem_append.mp hz with hz | hz
    · exact o.inn hc.1 z hz
    · exact p.inn hc.2 z hz
  · rw [r1.length, r2.length]; exact Nat.le_trans hsz lim_le
theorem newList_ {M : Model} {A : Around} {E : Value → Shared → Prop} {s : Shared} {vs : List Value} {Q : Value → Shared → Prop} (h : Q (.ref s.heap.objs.size) { s with heap := s.heap.push { cls := .type "list", data := .seq vs.toArray } }) (hsz : vs.length ≤ sizeLine) :
    wpAny M A (newList vs) Q E s := wpAny_newObj_type h (by show vs.toArray.size ≤ sizeLine; simpa using hsz)
theorem newTuple_ {M : Model} {A : Around} {E : Value → Shared → Prop} {s : Shared} {vs : List Value} {Q : Value → Shared → Prop} (h : Q (.ref s.heap.objs.size) { s with heap := s.heap.push { cls := .type "tuple", data := .seq vs.toArray } }) (hsz : vs.length ≤ sizeLine) :
    wpAny M A (newTuple vs) Q E s := wpAny_newObj_type h (by show vs.toArray.size ≤ sizeLine; simpa using hsz)
theorem one_le_line : 1 ≤ sizeLine := by unfold sizeLine; decide
theorem spliced_one {e : Expr} {A : Around} {env : Env} {s : Shared} {Q : List Value → Shared → Prop} {E : Value → Shared → Prop} {M : Model} (hst : ∀ x p, e ≠ .Starred x p) (h : wpAny M A (eval e env) (fun v s' => Q [v] s') E s) :
    wpAny M A (spliced (backTo pos (starEach [e] env))) Q E s := by
  have he : starEach [e] env = (false, eval e env) :: starEach [] env := by
    cases e <;> first | rfl | exact absurd rfl (hst _ _)
  exact args_cons (wpAny_mono h (fun v s' q => args_nil q) fun _ _ q => q) he
theorem rep_fold (v : Value) (j : Nat) : ∀ acc : Array Value, List.foldl (fun x1 x2 => x1 ++ x2) acc (List.replicate j ([v] : List Value).toArray) = acc ++ (List.replicate j v).toArray := by
  induction j with
  | zero => intro acc; simp
  | succ j ih =>
    intro acc
    rw [List.replicate_succ, List.foldl_cons, ih, List.replicate_succ]
    apply Array.ext'
    simp
theorem rep_eq (v : Value) (n : Nat) : List.foldl (fun x1 x2 => x1 ++ x2) #[] (List.replicate (if (([v] : List Value).toArray).isEmpty = true then 0 else n) ([v] : List Value).toArray) = (List.replicate n v).toArray := by
  rw [if_neg (by simp), rep_fold]; simp
theorem rds_rep (h : Heap) (i : Int) (t : Tok) (j : Nat) : Rds h (List.replicate j (Value.int i t)) (List.replicate j (.int i)) [] := by
  induction j with
  | zero => exact .nil
  | succ j ih => exact .cons (as := []) (.int i t) ih
theorem e_repl {p1 : Pos} (hst : ∀ x p, l ≠ .Starred x p) (ha : SoundE prog w m Φ c a l) (hb : SoundE prog w m Φ c b r) : SoundE prog w m Φ c (.repl a b) (.BinOp (.List [l] p1) .Mult r pos) := fun σ d s hd S Q E h => by
  obtain ⟨x, y, hx, hy, hd⟩ := bind2 hd
  obtain ⟨k, n, rfl, rfl, hn, rfl⟩ := dRepl_inv hd
  refine wpAny_BinOp (List_ (spliced_one hst (ev1 ha hx S fun v s₁ fp o S₁ => ?_)))
  refine newList_ ?_ one_le_line
  refine ev1 hb hy (S₁.mono (s' := { s₁ with heap := s₁.heap.push { cls := .type "list", data := .seq ([v] : List Value).toArray } }) fun _ _ e => Heap.get?_push_of_some _ e) fun u s₂ fq p S₂ => ?_
  obtain ⟨k1, ro, -⟩ := o
  obtain ⟨k2, rp, -⟩ := p
  obtain ⟨t1, rfl⟩ := rd_int ro
  obtain ⟨t2, rfl⟩ := rd_int rp
  have hl : s₂.heap.get? s₁.heap.objs.size = some { cls := .type "list", dict := none, data := .seq ([Value.int k t1] : List Value).toArray 0, slots := #[] } :=
    Keeps.keep k2 _ _ (Heap.get?_push_size _ rfl)
  refine wpAny_binaryOp_repeat_ref (T := "list") (U := "int") (by decide) ⟨_, hl, rfl⟩ (fun s' => typeIs_int s' n t2) noFill_list_mul F.fills_int_mul F.slot_int_rmul repeat_list F.slot_int_index.lookup
    (call_meets F.slot_int_rmul (typeIs_int s₂ n t2) F.entry_int_rmul (F.args_int_rmul_2 _ _) (int___rmul___int_list n t2 s₁.heap.objs.size _ 0)
      ⟨hl, rfl, ⟨_, hl, rfl⟩, call_meets F.slot_list_mul ⟨_, hl, rfl⟩ F.entry_list_mul (F.args_list_mul_2 _ _)
        (AutoListH.list___mul___list_int_3 s₁.heap.objs.size _ 0 n t2 (by simp [Builtin.List.listFitsIndex]; lia) (by simp; lia) (by simp [Builtin.List.listTooLong, sizeLine]; lia))
        ⟨hl, ?_⟩⟩)
  rw [rep_eq]
  exact h _ _ _ (Out.newList (cl := true) S₂ (Keeps.trans' k1 (Keeps.trans' (Keeps.push _ _) k2)) (rds_rep _ _ _ _) (fun _ q => nomatch q) fun _ _ q => nomatch q)
theorem e_scat (ha : SoundE prog w m Φ c a l) (hb : SoundE prog w m Φ c b r) : SoundE prog w m Φ c (.scat a b) (.BinOp l .Add r pos) := fun σ d s hd S Q E h => by
  obtain ⟨x, y, hx, hy, hd⟩ := bind2 hd
  obtain ⟨xs, ys, rfl, rfl, hsz, rfl⟩ := dScat_inv hd
  refine wpAny_BinOp (ev2 ha hb hx hy S fun v u s' fp fq o p S' => ?_)
  obtain ⟨t, rfl⟩ := rd_str o.rd
  obtain ⟨t', rfl⟩ := rd_str p.rd
  exact add_str (fun t' tk => h _ _ _ (Out.scalar (Keeps.trans' o.kp (Keeps.tok _ _)) (.str _ _))) (Nat.le_trans hsz lim_le)
theorem n_builtin {x : String} {A : Around} {env : Env} {s : Shared} {E : Value → Shared → Prop} {Q : Value → Shared → Prop} {σ : Store} (hm : m.Ok) (S : SatE m c σ s) (hx : x ∈ (["len", "abs", "sum", "all"] : List String))
    (hk : env.scope.kind = .function) (hg : env.globals = mainGlobals) (hb : env.builtins = builtinsNs) (hn : env.kindOf (Str.ofString x) = some .globalImplicit) (hd : ((Str.ofString x) == ("__debug__" : Str)) = false) (h : Q (.builtin x) s) :
    wpAny (model prog w) A (eval (.Name (Str.ofString x) pos) env) Q E s := by
  obtain ⟨h1, h2⟩ := hm.bi x hx
  exact Calls.Name_function_global hk hn (Calls.loadGlobal_builtin (by rw [hg]; exact S.md.g) h1 (by rw [hb]; exact S.md.b) h2 h) hd
theorem n_type {x : String} {A : Around} {env : Env} {s : Shared} {E : Value → Shared → Prop} {Q : Value → Shared → Prop} {σ : Store} (hm : m.Ok) (S : SatE m c σ s) (hx : x ∈ (["list", "range", "dict", "type", "str", "int", "tuple", "ValueError"] : List String))
    (hk : env.scope.kind = .function) (hg : env.globals = mainGlobals) (hb : env.builtins = builtinsNs) (hn : env.kindOf (Str.ofString x) = some .globalImplicit) (hd : ((Str.ofString x) == ("__debug__" : Str)) = false) (h : Q (.type x) s) :
    wpAny (model prog w) A (eval (.Name (Str.ofString x) pos) env) Q E s := by
  obtain ⟨h1, h2⟩ := hm.ty x hx
  exact Calls.Name_function_global hk hn (Calls.loadGlobal_builtin (by rw [hg]; exact S.md.g) h1 (by rw [hb]; exact S.md.b) h2 h) hd
structure EnvOk (c : CE) : Prop where
  hk : c.env.scope.kind = .function
  hg : c.env.globals = mainGlobals
  hb : c.env.builtins = builtinsNs
theorem call1_builtin {x : String} (hm : m.Ok) (ho : EnvOk c) (hx : x ∈ (["len", "abs", "sum", "all"] : List String)) (hn : c.env.kindOf (Str.ofString x) = some .globalImplicit) (hd' : ((Str.ofString x) == ("__debug__" : Str)) = false)
    {np p : Pos} {σ : Store} {s : Shared} (S : SatE m c σ s) {E : Value → Shared → Prop} {Q : Value → Shared → Prop} (hst : ∀ x p, l ≠ .Starred x p)
    (h : wpAny (model prog w) c.A (eval l c.env) (fun v s' => wpAny (model prog w) c.A (call (.builtin x) [v]) Q E s') E s) :
    wpAny (model prog w) c.A (eval (.Call (.Name (Str.ofString x) np) [l] [] p) c.env) Q E s := by
  refine Call_ (n_builtin hm S hx ho.hk ho.hg ho.hb hn hd' ?_)
  have he : starEach [l] c.env = (false, eval l c.env) :: starEach [] c.env := by
    cases l <;> first | rfl | exact absurd rfl (hst _ _)
  exact callWith_builtin1 (spliced_one hst h) he
theorem call1_type {x : String} (hm : m.Ok) (ho : EnvOk c) (hx : x ∈ (["list", "range", "dict", "type", "str", "int", "tuple", "ValueError"] : List String)) (hn : c.env.kindOf (Str.ofString x) = some .globalImplicit) (hd' : ((Str.ofString x) == ("__debug__" : Str)) = false)
    {np p : Pos} {σ : Store} {s : Shared} (S : SatE m c σ s) {E : Value → Shared → Prop} {Q : Value → Shared → Prop} (hst : ∀ x p, l ≠ .Starred x p)
    (h : wpAny (model prog w) c.A (eval l c.env) (fun v s' => wpAny (model prog w) c.A (call (.type x) [v]) Q E s') E s) :
    wpAny (model prog w) c.A (eval (.Call (.Name (Str.ofString x) np) [l] [] p) c.env) Q E s := by
  refine Call_ (n_type hm S hx ho.hk ho.hg ho.hb hn hd' ?_)
  have he : starEach [l] c.env = (false, eval l c.env) :: starEach [] c.env := by
    cases l <;> first | rfl | exact absurd rfl (hst _ _)
  have hs := spliced_one (pos := p) (A := c.A) (Q := fun vs s' => wpAny (model prog w) c.A (call (.type x) vs) Q E s') hst h
  rw [he] at hs ⊢
  exact PySem.callWith_type rfl (Calls.evalArgs_plain hs)
theorem int_log2_small {k : Int} (h : k.natAbs < 1000000) : k.natAbs.log2 < 1920 := by
  by_cases h0 : k.natAbs = 0
  · rw [h0]; decide
  · have : k.natAbs.log2 < 20 := (Nat.log2_lt h0).mpr (by lia)
    lia
theorem dStr_inv {x d : PyData} (h : dStr x = some d) : ∃ a, x = .int a ∧ a.natAbs < 1000000 ∧ d = .str (Str.ofString (toString a)) := by
  cases x <;> try exact (nn h).elim
  exact ⟨_, rfl, if_inv h⟩
theorem dLen_inv {x d : PyData} (h : dLen x = some d) : ∃ xs, x = .list xs ∧ xs.length ≤ lim ∧ d = .int xs.length := by
  cases x <;> try exact (nn h).elim
  exact ⟨_, rfl, if_inv h⟩
theorem dListOf_inv {x d : PyData} (h : dListOf x = some d) : ∃ xs, x = .list xs ∧ xs.length ≤ lim ∧ d = .list xs := by
  cases x <;> try exact (nn h).elim
  exact ⟨_, rfl, if_inv h⟩
theorem dAbs_inv {x d : PyData} (h : dAbs x = some d) : ∃ a, x = .int a ∧ d = .int (if a < 0 then -a else a) := by
  cases x <;> try exact (nn h).elim
  cases h
  exact ⟨_, rfl, rfl⟩
theorem e_strOf {np p : Pos} (hm : m.Ok) (ho : EnvOk c) (hn : c.env.kindOf (Str.ofString "str") = some .globalImplicit) (hst : ∀ x p, l ≠ .Starred x p) (ha : SoundE prog w m Φ c a l) :
    SoundE prog w m Φ c (.strOf a) (.Call (.Name (Str.ofString "str") np) [l] [] p) := fun σ d s hd S Q E h => by
  obtain ⟨x, hx, hd⟩ := bind1 hd
  obtain ⟨i, rfl, hi, rfl⟩ := dStr_inv hd
  refine call1_type hm ho (by decide) hn (by decide) S hst (ev1 ha hx S fun v s' fp o S' => ?_)
  obtain ⟨k1, ro, -⟩ := o
  obtain ⟨t, rfl⟩ := rd_int ro
  exact P.str_of_int (int_log2_small hi) (h _ _ _ (Out.scalar (Keeps.trans' k1 (Keeps.tok _ _)) (.str _ _)))
theorem lim_fit {n : Nat} (h : n ≤ lim) : (n : Int) < 2 ^ 63 := by unfold lim at h; lia
theorem e_len {np p : Pos} (hm : m.Ok) (ho : EnvOk c) (hn : c.env.kindOf (Str.ofString "len") = some .globalImplicit) (hst : ∀ x p, l ≠ .Starred x p) (ha : SoundE prog w m Φ c a l) :
    SoundE prog w m Φ c (.len a) (.Call (.Name (Str.ofString "len") np) [l] [] p) := fun σ d s hd S Q E h => by
  obtain ⟨x, hx, hd⟩ := bind1 hd
  obtain ⟨xs, rfl, hsz, rfl⟩ := dLen_inv hd
  refine call1_builtin hm ho (by decide) hn (by decide) S hst (ev1 ha hx S fun v s' fp o S' => ?_)
  obtain ⟨a1, vs, as, rfl, rfl, p1, r1⟩ := rd_list o.rd
  have e := r1.length
  refine Calls.call_len_list (plainL_list p1) (by simp only [List.size_toArray]; rw [e]; exact lim_fit hsz) ?_
  simp only [List.size_toArray]
  rw [e]
  exact h _ _ _ (Out.scalar (Keeps.trans' o.kp (Keeps.tok _ _)) (.int _ _))
theorem e_abs {np p : Pos} (hm : m.Ok) (ho : EnvOk c) (hn : c.env.kindOf (Str.ofString "abs") = some .globalImplicit) (hst : ∀ x p, l ≠ .Starred x p) (ha : SoundE prog w m Φ c a l) :
    SoundE prog w m Φ c (.abs a) (.Call (.Name (Str.ofString "abs") np) [l] [] p) := fun σ d s hd S Q E h => by
  obtain ⟨x, hx, hd⟩ := bind1 hd
  obtain ⟨i, rfl, rfl⟩ := dAbs_inv hd
  refine call1_builtin hm ho (by decide) hn (by decide) S hst (ev1 ha hx S fun v s' fp o S' => ?_)
  obtain ⟨t, rfl⟩ := rd_int o.rd
  exact call_abs_int fun u tk => h _ _ _ (Out.scalar (Keeps.trans' o.kp (Keeps.tok _ _)) (.int _ _))
theorem e_listOf {np p : Pos} (hm : m.Ok) (ho : EnvOk c) (hn : c.env.kindOf (Str.ofString "list") = some .globalImplicit) (hst : ∀ x p, l ≠ .Starred x p) (ha : SoundE prog w m Φ c a l) :
    SoundE prog w m Φ c (.listOf a) (.Call (.Name (Str.ofString "list") np) [l] [] p) := fun σ d s hd S Q E h => by
  obtain ⟨x, hx, hd⟩ := bind1 hd
  obtain ⟨xs, rfl, hsz, rfl⟩ := dListOf_inv hd
  refine call1_type hm ho (by decide) hn (by decide) S hst (ev1 ha hx S fun v s' fp o S' => ?_)
  obtain ⟨a1, vs, as, rfl, rfl, p1, r1⟩ := rd_list o.rd
  obtain ⟨ob, n, e1, e2, e3, e4⟩ := p1
  refine call_list_seq _ (.inl rfl) e1 e2 e4 (fun h' c' hk hD => ?_) (by simp only [List.size_toArray]; rw [r1.length]; exact Nat.le_trans hsz lim_le)
  have hf := size_fresh s'.heap
  have hw := S'.fresh _ hf
  refine h _ _ (s'.heap.objs.size :: _) ⟨Keeps.trans' o.kp ⟨h', _, rfl, hk⟩, .list ⟨_, c', hD, rfl, rfl, rfl⟩ (r1.keeps hk), ?_, ?_, ?_, fun _ => ⟨_, _, rfl, rfl, none_of_keep (Keeps.keep o.kp) hf, not_mem_fp r1 hf⟩⟩
  · intro z hz
    rcases List.mem_cons.mp hz with rfl | hz
    · exact hw.1
    · exact o.u z (.tail _ hz)
  · intro hc z hz
    rcases List.mem_cons.mp hz with rfl | hz
    · exact hw.2
    · exact o.inn hc z hz
  · exact fun hc z hz => o.inn hc z hz
end
end Mine

namespace Mine
open PySem PyProof.Rows
set_option autoImplicit false
set_option maxRecDepth 10000
section
variable {prog : Program} {w : World} {m : Mod} {Φ : Nat → List PyData → Option PyData} {c : CE} {l r : Expr} {a b : PE} {pos : Pos}
noncomputable def opOf : CO → CmpOp
  | .lt => .Lt | .le => .LtE | .gt => .Gt | .ge => .GtE | .eq => .Eq | .ne => .NotEq | .isin => .In | .notin => .NotIn
theorem shallow_parts {d : PyData} (h : shallow d = true) : d.canLay0 = true ∧ d.depth ≤ 16 :=
  (Bool.and_eq_true_iff.mp h).imp id of_decide_eq_true
inductive Int2 (f : Int → Int → Bool) : PyData → PyData → Bool → Prop
  | mk (a b : Int) : Int2 f (.int a) (.int b) (f a b)
theorem int2_inv {f : Int → Int → Bool} {x y : PyData} {k : Bool} (h : int2 f x y = some k) : Int2 f x y k := by
  cases x with
  | int a => cases y with
    | int b => cases h; exact .mk a b
    | _ => exact (nn h).elim
  | _ => exact (nn h).elim
theorem rd_int2 {f : Int → Int → Bool} {x y : PyData} {k : Bool} {h : Heap} {v u : Value} {fp fq : List Addr} (e : int2 f x y = some k) (rv : Rd h v x fp) (ru : Rd h u y fq) {P : Value → Value → Bool → Prop} (g : ∀ i t j t', P (.int i t) (.int j t') (f i j)) : P v u k := by
  cases int2_inv e; cases rv; cases ru; exact g _ _ _ _
theorem sh_inv {x y : PyData} {k b : Bool} {h : Heap} {v u : Value} {fp fq : List Addr} (e : (if shallow x && shallow y then some b else none) = some k) (rv : Rd h v x fp) (ru : Rd h u y fq) {P : Bool → Prop}
    (g : ∀ as bs, Reads h v x as → Reads h u y bs → x.canLay0 = true → y.canLay0 = true → x.depth ≤ 16 → y.depth ≤ 16 → P b) : P k := by
  obtain ⟨hs, rfl⟩ := if_inv e
  have hs := Bool.and_eq_true_iff.mp hs
  obtain ⟨a1, a2⟩ := shallow_parts hs.1
  obtain ⟨b1, b2⟩ := shallow_parts hs.2
  obtain ⟨as, q1⟩ := rv.reads a1
  obtain ⟨bs, q2⟩ := ru.reads b1
  exact g as bs q1 q2 a1 b1 a2 b2
theorem cmp_step {A : Around} {o : CO} {x y : PyData} {k : Bool} (hd : dCmp o x y = some k) (hu : A.units + 100 < cLine) {s : Shared} {v u : Value} {fp fq : List Addr} (rv : Rd s.heap v x fp) (ru : Rd s.heap u y fq)
    {Q : Value → Shared → Prop} {E : Value → Shared → Prop} (h : ∀ s', Keeps s s' → Q (.bool k) s') : wpAny (model prog w) A (compareOp (opOf o) v u) Q E s := by
  have h := h _ (Keeps.rfl' _)
  cases o with
  | lt => exact rd_int2 (P := fun v u k => Q (.bool k) s → wpAny (model prog w) A (compareOp .Lt v u) Q E s) hd rv ru (fun _ _ _ _ q => P.lt_int q) h
  | le => exact rd_int2 (P := fun v u k => Q (.bool k) s → wpAny (model prog w) A (compareOp .LtE v u) Q E s) hd rv ru (fun _ _ _ _ q => P.le_int q) h
  | gt => exact rd_int2 (P := fun v u k => Q (.bool k) s → wpAny (model prog w) A (compareOp .Gt v u) Q E s) hd rv ru (fun _ _ _ _ q => P.gt_int q) h
  | ge => exact rd_int2 (P := fun v u k => Q (.bool k) s → wpAny (model prog w) A (compareOp .GtE v u) Q E s) hd rv ru (fun _ _ _ _ q => P.ge_int q) h
  | eq => exact sh_inv (P := fun k => Q (.bool k) s → wpAny (model prog w) A (compareOp .Eq v u) Q E s) hd rv ru (fun _ _ q1 q2 a1 b1 a2 b2 q => SeqAt.compareEq_reads q1 q2 a1 b1 (by lia) q) h
  | ne => exact sh_inv (P := fun k => Q (.bool k) s → wpAny (model prog w) A (compareOp .NotEq v u) Q E s) hd rv ru (fun _ _ q1 q2 a1 b1 a2 b2 q => SeqAt.compareNe_reads q1 q2 a1 b1 (by lia) q) h
  | isin => cases y with
    | list xs => exact sh_inv (P := fun k => Q (.bool k) s → wpAny (model prog w) A (compareOp .In v u) Q E s) hd rv ru (fun _ _ q1 q2 a1 b1 a2 b2 q => SeqAt.in_list_reads q2 q1 b1 a1 (by lia) q) h
    | _ => exact (nn hd).elim
  | notin => cases y with
    | list xs => exact sh_inv (P := fun k => Q (.bool k) s → wpAny (model prog w) A (compareOp .NotIn v u) Q E s) hd rv ru (fun _ _ q1 q2 a1 b1 a2 b2 q => SeqAt.notIn_list_reads q2 q1 b1 a1 (by lia) q) h
    | _ => exact (nn hd).elim
theorem e_cmp {o : CO} (hu : c.A.units + 100 < cLine) (hmk : behindInMarks (opOf o) r = false) (ha : SoundE prog w m Φ c a l) (hb : SoundE prog w m Φ c b r) : SoundE prog w m Φ c (.cmp o a b) (.Compare l [opOf o] [r] pos) := fun σ d s hd S Q E h => by
  simp only [den_cmp, Option.bind_eq_some_iff, Option.map_eq_some_iff] at hd
  obtain ⟨x, hx, y, hy, k, hd, rfl⟩ := hd
  refine wpAny_Compare1 (ev2 ha hb hx hy S fun v u s' fp fq o1 p1 S' => ?_) hmk
  exact cmp_step hd hu o1.rd p1.rd fun s'' k'' => h _ _ _ (Out.scalar (Keeps.trans' o1.kp k'') (.bool _))
theorem c_cmp {o : CO} (hu : c.A.units + 100 < cLine) (hmk : behindInMarks (opOf o) r = false) (ha : SoundE prog w m Φ c a l) (hb : SoundE prog w m Φ c b r) : SoundC prog w m Φ c (.ex (.cmp o a b)) (.Compare l [opOf o] [r] pos) := fun σ d s hd S Q E h => by
  simp only [dC_ex, den_cmp, Option.bind_eq_some_iff, Option.map_eq_some_iff] at hd
  obtain ⟨t, ⟨x, hx, y, hy, k, hd, rfl⟩, ht⟩ := hd
  simp only [Option.some.injEq] at ht; subst ht
  refine wpAny_isTrue_Compare1 (ev2 ha hb hx hy S fun v u s' fp fq o1 p1 S' => ?_) hmk
  exact cmp_step hd hu o1.rd p1.rd fun s'' k'' => wpAny_truthy_bool (h _ (Keeps.trans' o1.kp k''))
theorem isNone_val {h : Heap} {v : Value} {d : PyData} {fp : List Addr} (r : Rd h v d fp) : (v == Value.none) = dIsNone d := by
  cases r <;> rfl
theorem e_isN {k p1} (ha : SoundE prog w m Φ c a l) : SoundE prog w m Φ c (.isN a) (.Compare l [.Is] [.Constant .none k p1] pos) := fun σ d s hd S Q E h => by
  simp only [q_isN, Option.bind_eq_some_iff, Option.some.injEq] at hd
  obtain ⟨x, hx, rfl⟩ := hd
  refine wpAny_Compare1 (ev1 ha hx S fun v s' fp o S' => Constant_none (is_none ?_)) rfl
  rw [isNone_val o.rd]
  exact h _ _ _ (Out.scalar o.kp (.bool _))
theorem e_notN {k p1} (ha : SoundE prog w m Φ c a l) : SoundE prog w m Φ c (.notN a) (.Compare l [.IsNot] [.Constant .none k p1] pos) := fun σ d s hd S Q E h => by
  simp only [q_notN, Option.bind_eq_some_iff, Option.some.injEq] at hd
  obtain ⟨x, hx, rfl⟩ := hd
  refine wpAny_Compare1 (ev1 ha hx S fun v s' fp o S' => Constant_none (isNot_none ?_)) rfl
  rw [isNone_val o.rd]
  exact h _ _ _ (Out.scalar o.kp (.bool _))
theorem c_isN {k p1} (ha : SoundE prog w m Φ c a l) : SoundC prog w m Φ c (.ex (.isN a)) (.Compare l [.Is] [.Constant .none k p1] pos) := fun σ d s hd S Q E h => by
  simp only [dC_ex, q_isN, Option.bind_eq_some_iff, Option.some.injEq] at hd
  obtain ⟨t, ⟨x, hx, rfl⟩, ht⟩ := hd
  simp only [Option.some.injEq] at ht; subst ht
  refine wpAny_isTrue_Compare1 (ev1 ha hx S fun v s' fp o S' => Constant_none (is_none (wpAny_truthy_bool ?_))) rfl
  rw [isNone_val o.rd]
  exact h _ o.kp
theorem c_notN {k p1} (ha : SoundE prog w m Φ c a l) : SoundC prog w m Φ c (.ex (.notN a)) (.Compare l [.IsNot] [.Constant .none k p1] pos) := fun σ d s hd S Q E h => by
  simp only [dC_ex, q_notN, Option.bind_eq_some_iff, Option.some.injEq] at hd
  obtain ⟨t, ⟨x, hx, rfl⟩, ht⟩ := hd
  simp only [Option.some.injEq] at ht; subst ht
  refine wpAny_isTrue_Compare1 (ev1 ha hx S fun v s' fp o S' => Constant_none (isNot_none (wpAny_truthy_bool ?_))) rfl
  rw [isNone_val o.rd]
  exact h _ o.kp
theorem typeIs_step {T : String} (hm : m.Ok) (ho : EnvOk c) (hn : c.env.kindOf (Str.ofString "type") = some .globalImplicit) (hT : T = "int" ∨ T = "tuple") (hn' : c.env.kindOf (Str.ofString T) = some .globalImplicit) (hst : ∀ x p, l ≠ .Starred x p)
    (ha : SoundE prog w m Φ c a l) {σ : Store} {x : PyData} {k : Bool} {s : Shared} (hx : denE Φ a σ = some x) (hd : dTypeIs T x = some k) (S : SatE m c σ s) {p1 p2 p3 : Pos} {Q : Value → Shared → Prop} {E : Value → Shared → Prop}
    (h : ∀ s', Keeps s s' → Q (.bool k) s') :
    wpAny (model prog w) c.A (eval (.Call (.Name (Str.ofString "type") p1) [l] [] p2) c.env) (fun v s₁ => wpAny (model prog w) c.A (eval (.Name (Str.ofString T) p3) c.env) (fun u s₂ => wpAny (model prog w) c.A (compareOp .Is v u) Q E s₂) E s₁) E s := by
  refine call1_type hm ho (by decide) hn (by decide) S hst (ev1 ha hx S fun v s' fp o S' => ?_)
  have hdbg : ((Str.ofString T) == ("__debug__" : Str)) = false := by rcases hT with rfl | rfl <;> decide
  have hin : T ∈ (["list", "range", "dict", "type", "str", "int", "tuple", "ValueError"] : List String) := by rcases hT with rfl | rfl <;> decide
  obtain ⟨k1, ro, -⟩ := o
  cases x with
  | int i =>
    obtain ⟨rfl, rfl⟩ := if_inv hd
    obtain ⟨t, rfl⟩ := rd_int ro
    exact call_type_of (Tx := "int") (typeIs_int _ _ _) (by decide) (n_type hm S' hin ho.hk ho.hg ho.hb hn' hdbg (wpAny_is_self rfl (h _ k1)))
  | tuple xs =>
    obtain ⟨rfl, rfl⟩ := if_inv hd
    cases ro with
    | tuple p1 r1 =>
      exact call_type_of (Tx := "tuple") p1.typeIs (by decide) (n_type hm S' hin ho.hk ho.hg ho.hb hn' hdbg (wpAny_is_self rfl (h _ k1)))
  | _ => exact (nn hd).elim
theorem e_typeIs {T : String} (hm : m.Ok) (ho : EnvOk c) (hn : c.env.kindOf (Str.ofString "type") = some .globalImplicit) (hT : T = "int" ∨ T = "tuple") (hn' : c.env.kindOf (Str.ofString T) = some .globalImplicit) (hst : ∀ x p, l ≠ .Starred x p)
    (ha : SoundE prog w m Φ c a l) {p1 p2 p3 : Pos} : SoundE prog w m Φ c (.typeIs a T) (.Compare (.Call (.Name (Str.ofString "type") p1) [l] [] p2) [.Is] [.Name (Str.ofString T) p3] pos) := fun σ d s hd S Q E h => by
  simp only [q_typeIs, Option.bind_eq_some_iff, Option.map_eq_some_iff] at hd
  obtain ⟨x, hx, k, hd, rfl⟩ := hd
  exact wpAny_Compare1 (typeIs_step hm ho hn hT hn' hst ha hx hd S fun s' k' => h _ _ _ (Out.scalar k' (.bool _))) rfl
theorem c_typeIs {T : String} (hm : m.Ok) (ho : EnvOk c) (hn : c.env.kindOf (Str.ofString "type") = some .globalImplicit) (hT : T = "int" ∨ T = "tuple") (hn' : c.env.kindOf (Str.ofString T) = some .globalImplicit) (hst : ∀ x p, l ≠ .Starred x p)
    (ha : SoundE prog w m Φ c a l) {p1 p2 p3 : Pos} : SoundC prog w m Φ c (.ex (.typeIs a T)) (.Compare (.Call (.Name (Str.ofString "type") p1) [l] [] p2) [.Is] [.Name (Str.ofString T) p3] pos) := fun σ d s hd S Q E h => by
  simp only [dC_ex, q_typeIs, Option.bind_eq_some_iff, Option.map_eq_some_iff] at hd
  obtain ⟨t, ⟨x, hx, k, hd, rfl⟩, ht⟩ := hd
  simp only [Option.some.injEq] at ht; subst ht
  exact wpAny_isTrue_Compare1 (typeIs_step hm ho hn hT hn' hst ha hx hd S fun s' k' => wpAny_truthy_bool (h _ k')) rfl
theorem c_plain (he : isTrue l c.env (eval l c.env) = (do let v ← eval l c.env; standAt l.pos; holding [v] (truthy v))) (ha : SoundE prog w m Φ c a l) : SoundC prog w m Φ c (.ex a) l := fun σ d s hd S Q E h => by
  simp only [dC_ex, Option.bind_eq_some_iff] at hd
  obtain ⟨x, hx, hd⟩ := hd
  refine isTrue_plain (ev1 ha hx S fun v s' fp o S' => ?_) he
  cases x with
  | bool b =>
    simp only [Option.some.injEq] at hd; subst hd
    obtain ⟨k1, ro, -⟩ := o
    cases ro
    exact wpAny_truthy_bool (h _ k1)
  | _ => cases hd
theorem c_not {pc : PC} (hc : SoundC prog w m Φ c pc l) : SoundC prog w m Φ c (.not pc) (.UnaryOp .Not l pos) := fun σ d s hd S Q E h => by
  simp only [dC_not, Option.map_eq_some_iff] at hd
  obtain ⟨t, ht, rfl⟩ := hd
  exact isTrue_not (hc σ t s ht S _ E h)
theorem isTrue_ofAnd1 {M : Model} {A : Around} {env : Env} {e : Expr} {s : Shared} {Q : Bool → Shared → Prop} {E : Value → Shared → Prop} {whole : Sem Value} (h : wpAny M A (isTrue e env (eval e env)) Q E s) : wpAny M A (isTrue (.BoolOp .And [e] pos) env whole) Q E s := by
  refine isTrue_and (wpAny_mono h (fun c s' q => ?_) fun _ _ x => x)
  cases c with
  | true => exact isTrue_and_nil q
  | false => exact q
theorem isTrue_ofOr1 {M : Model} {A : Around} {env : Env} {e : Expr} {s : Shared} {Q : Bool → Shared → Prop} {E : Value → Shared → Prop} {whole : Sem Value} (h : wpAny M A (isTrue e env (eval e env)) Q E s) : wpAny M A (isTrue (.BoolOp .Or [e] pos) env whole) Q E s := by
  refine isTrue_or (wpAny_mono h (fun c s' q => ?_) fun _ _ x => x)
  cases c with
  | true => exact q
  | false => exact isTrue_or_nil q
theorem c_and2 {pa pb : PC} (hp : SoundC prog w m Φ c pa l) (hq : SoundC prog w m Φ c pb r) : SoundC prog w m Φ c (.and pa pb) (.BoolOp .And [l, r] pos) := fun σ d s hd S Q E h => by
  simp only [dC_and, Option.bind_eq_some_iff] at hd
  obtain ⟨t, ht, hd⟩ := hd
  refine isTrue_and (hp σ t s ht S _ E fun s' k => ?_)
  cases t with
  | true => exact isTrue_ofAnd1 (hq σ d s' hd (S.mono (Keeps.keep k)) _ E fun s'' k' => h _ (Keeps.trans' k k'))
  | false => simp at hd; subst hd; exact h _ k
theorem c_andN {pa pb : PC} {e : Expr} {es : List Expr} (hp : SoundC prog w m Φ c pa l) (hq : SoundC prog w m Φ c pb (.BoolOp .And (r :: e :: es) pos)) : SoundC prog w m Φ c (.and pa pb) (.BoolOp .And (l :: r :: e :: es) pos) := fun σ d s hd S Q E h => by
  simp only [dC_and, Option.bind_eq_some_iff] at hd
  obtain ⟨t, ht, hd⟩ := hd
  refine isTrue_and (hp σ t s ht S _ E fun s' k => ?_)
  cases t with
  | true => exact hq σ d s' hd (S.mono (Keeps.keep k)) _ E fun s'' k' => h _ (Keeps.trans' k k')
  | false => simp at hd; subst hd; exact h _ k
theorem c_or2 {pa pb : PC} (hp : SoundC prog w m Φ c pa l) (hq : SoundC prog w m Φ c pb r) : SoundC prog w m Φ c (.or pa pb) (.BoolOp .Or [l, r] pos) := fun σ d s hd S Q E h => by
  simp only [dC_or, Option.bind_eq_some_iff] at hd
  obtain ⟨t, ht, hd⟩ := hd
  refine isTrue_or (hp σ t s ht S _ E fun s' k => ?_)
  cases t with
  | false => exact isTrue_ofOr1 (hq σ d s' hd (S.mono (Keeps.keep k)) _ E fun s'' k' => h _ (Keeps.trans' k k'))
  | true => simp at hd; subst hd; exact h _ k
theorem c_orN {pa pb : PC} {e : Expr} {es : List Expr} (hp : SoundC prog w m Φ c pa l) (hq : SoundC prog w m Φ c pb (.BoolOp .Or (r :: e :: es) pos)) : SoundC prog w m Φ c (.or pa pb) (.BoolOp .Or (l :: r :: e :: es) pos) := fun σ d s hd S Q E h => by
  simp only [dC_or, Option.bind_eq_some_iff] at hd
  obtain ⟨t, ht, hd⟩ := hd
  refine isTrue_or (hp σ t s ht S _ E fun s' k => ?_)
  cases t with
  | false => exact hq σ d s' hd (S.mono (Keeps.keep k)) _ E fun s'' k' => h _ (Keeps.trans' k k')
  | true => simp at hd; subst hd; exact h _ k
theorem e_ite {pc : PC} {t : Expr} (hc : SoundC prog w m Φ c pc t) (ha : SoundE prog w m Φ c a l) (hb : SoundE prog w m Φ c b r) : SoundE prog w m Φ c (.ite pc a b) (.IfExp t l r pos) := fun σ d s hd S Q E h => by
  simp only [q_ite, Option.bind_eq_some_iff] at hd
  obtain ⟨k, hk, hd⟩ := hd
  refine IfExp_ (hc σ k s hk S _ E fun s' kp => ?_)
  cases k with
  | true =>
    refine ev1 ha (by simpa using hd) (S.mono (Keeps.keep kp)) fun v s'' fp o S'' => h v s'' fp ⟨Keeps.trans' kp o.kp, o.rd, o.u, fun q => o.cl ?_, fun q => o.inn ?_, fun q => nomatch q⟩
    · exact (Bool.and_eq_true_iff.mp q).1
    · have q' : (PE.clean c.own a && PE.clean c.own b) = true := q
      rw [Bool.and_eq_true] at q'; rw [q'.1, Bool.or_true]
  | false =>
    refine ev1 hb (by simpa using hd) (S.mono (Keeps.keep kp)) fun v s'' fp o S'' => h v s'' fp ⟨Keeps.trans' kp o.kp, o.rd, o.u, fun q => o.cl ?_, fun q => o.inn ?_, fun q => nomatch q⟩
    · exact (Bool.and_eq_true_iff.mp q).2
    · have q' : (PE.clean c.own a && PE.clean c.own b) = true := q
      rw [Bool.and_eq_true] at q'; rw [q'.2, Bool.or_true]
end
end Mine

namespace Mine
open PySem PyProof.Rows
set_option autoImplicit false
set_option maxRecDepth 10000
theorem cast_min (a b : Nat) : ((min a b : Nat) : Int) = min (a : Int) b := by
  rcases Nat.le_total a b with q | q
  · rw [Nat.min_eq_left q, Int.min_eq_left (Int.ofNat_le.mpr q)]
  · rw [Nat.min_eq_right q, Int.min_eq_right (Int.ofNat_le.mpr q)]
theorem clampI_eq (n : Nat) (i : Int) : max 0 (min (if i < 0 then i + n else i) n) = ((clampI n i : Nat) : Int) := by
  unfold clampI
  by_cases h : i < 0
  · rw [if_pos h, if_pos h, Int.min_eq_left (by lia), Int.toNat_eq_max, Int.max_comm]
  · have h : 0 ≤ i := Int.not_lt.mp h
    rw [if_neg (Int.not_lt.mpr h), if_neg (Int.not_lt.mpr h), cast_min, Int.toNat_of_nonneg h, Int.max_eq_right (Int.le_min.mpr ⟨h, Int.natCast_nonneg n⟩)]
theorem slicePick_gen (items : Array Value) (lo hi : Option Int) :
    slicePick items lo hi none = ((items.toList.take (hi.elim items.size (clampI items.size))).drop (lo.elim 0 (clampI items.size))).toArray := by
  have e : sliceBounds lo hi none items.size = (((lo.elim 0 (clampI items.size) : Nat) : Int), ((hi.elim items.size (clampI items.size) : Nat) : Int), 1) := by
    simp only [sliceBounds, Option.getD_none, show (1 : Int) > 0 by decide, if_true]
    congr 1
    · cases lo with
      | none => rfl
      | some i => exact clampI_eq _ _
    · congr 1
      cases hi with
      | none => rfl
      | some i => exact clampI_eq _ _
  unfold slicePick
  rw [e]
  simp only [sliceRange_one, pick_run]
  rw [List.drop_take]
section
variable {prog : Program} {w : World} {m : Mod} {Φ : Nat → List PyData → Option PyData} {c : CE} {l r : Expr} {a b : PE} {pos : Pos}
theorem subscripted_plain {o i : Value} (hns : ∀ x y z p, r ≠ .Slice x y z p) : subscripted r false o i = operate [o, i] (getItem o i) := by
  cases r <;> first | rfl | exact absurd rfl (hns _ _ _ _)
theorem tail_sub {x : PyData} {s s' : Shared} {v : Value} {fp fp' : List Addr} {tf : Bool} {d : PyData} {u : Value} (o : Out c s s' v x (a.clean c.own) (isVar a || a.clean c.own) tf fp) (r : Rd s'.heap u d fp') (sub : ∀ z ∈ fp', z ∈ fp.tail) :
    Out c s s' u d (PE.clean c.own (.idx a b)) (PE.clean c.own (.idx a b)) false fp' :=
  ⟨o.kp, r, fun z hz => o.u z (List.mem_of_mem_tail (sub z hz)), fun q z hz => o.inn q z (sub z hz), fun q z hz => o.inn q z (sub z (List.mem_of_mem_tail hz)), fun q => nomatch q⟩
theorem dIdx_inv {x y d : PyData} (h : dIdx x y = some d) : ∃ i, y = .int i ∧ ((∃ xs, x = .list xs ∧ (0 ≤ i ∧ i.toNat < 1048576) ∧ xs[i.toNat]? = some d) ∨ (∃ xs, x = .tuple xs ∧ (0 ≤ i ∧ i.toNat < 1048576) ∧ xs[i.toNat]? = some d) ∨ ∃ kvs k, x = .dict kvs ∧ dictGet kvs i = some k ∧ d = .int k) := by
  have ifo : ∀ {p : Prop} [Decidable p] {o : Option PyData}, (if p then o else none) = some d → p ∧ o = some d := fun {p _ o} h => by
    by_cases hp : p
    · rw [if_pos hp] at h; exact ⟨hp, h⟩
    · rw [if_neg hp] at h; exact (nn h).elim
  cases x <;> try exact (nn h).elim
  all_goals cases y <;> try exact (nn h).elim
  · exact ⟨_, rfl, .inl ⟨_, rfl, ifo h⟩⟩
  · exact ⟨_, rfl, .inr (.inl ⟨_, rfl, ifo h⟩)⟩
  · obtain ⟨k, hk, e⟩ := Option.map_eq_some_iff.mp h
    exact ⟨_, rfl, .inr (.inr ⟨_, k, rfl, hk, e.symm⟩)⟩
theorem dLast_inv {x d : PyData} (h : dLast x = some d) : ∃ xs, x = .list xs ∧ xs.getLast? = some d := by
  cases x <;> try exact (nn h).elim
  rename_i xs
  have h' : (if xs.length ≤ lim then xs.getLast? else none) = some d := h
  by_cases hp : xs.length ≤ lim
  · rw [if_pos hp] at h'; exact ⟨xs, rfl, h'⟩
  · rw [if_neg hp] at h'; exact (nn h').elim
theorem dSlLH_inv {x y z d : PyData} (h : dSlLH x y z = some d) : ∃ xs lo hi, x = .list xs ∧ y = .int lo ∧ z = .int hi ∧ xs.length ≤ lim ∧ d = .list ((xs.take (clampI xs.length hi)).drop (clampI xs.length lo)) := by
  cases x <;> try exact (nn h).elim
  cases y <;> try exact (nn h).elim
  cases z <;> try exact (nn h).elim
  exact ⟨_, _, _, rfl, rfl, rfl, if_inv h⟩
theorem dSlH_inv {x z d : PyData} (h : dSlH x z = some d) : ∃ xs hi, x = .list xs ∧ z = .int hi ∧ xs.length ≤ lim ∧ d = .list (xs.take (clampI xs.length hi)) := by
  cases x <;> try exact (nn h).elim
  cases z <;> try exact (nn h).elim
  exact ⟨_, _, rfl, rfl, if_inv h⟩
theorem dSlL_inv {x z d : PyData} (h : dSlL x z = some d) : ∃ xs lo, x = .list xs ∧ z = .int lo ∧ xs.length ≤ lim ∧ d = .list (xs.drop (clampI xs.length lo)) := by
  cases x <;> try exact (nn h).elim
  cases z <;> try exact (nn h).elim
  exact ⟨_, _, rfl, rfl, if_inv h⟩
theorem rd_tup {h : Heap} {v : Value} {xs : List PyData} {fp : List Addr} (r : Rd h v (.tuple xs) fp) : ∃ a vs as, v = .ref a ∧ fp = a :: as ∧ IsTup h a (List.toArray vs) ∧ Rds h vs xs as := by
  cases r with
  | tuple x y => exact ⟨_, _, _, rfl, rfl, x, y⟩
theorem rd_dict {h : Heap} {v : Value} {kvs : List (PyData × PyData)} {fp : List Addr} (r : Rd h v (.dict kvs) fp) : ∃ a f, v = .ref a ∧ h.IntMap a f ∧ ∀ k x, dictGet kvs k = some x → ∃ t, f k = some (.int x t) := by
  cases r with
  | dict x y => exact ⟨_, _, rfl, x, y⟩
theorem e_idx (hns : ∀ x y z p, r ≠ .Slice x y z p) (ha : SoundE prog w m Φ c a l) (hb : SoundE prog w m Φ c b r) : SoundE prog w m Φ c (.idx a b) (.Subscript l r pos) := fun σ d s hd S Q E h => by
  obtain ⟨x, y, hx, hy, hd⟩ := bind2 hd
  obtain ⟨i, rfl, ⟨xs, rfl, hi, hd⟩ | ⟨xs, rfl, hi, hd⟩ | ⟨kvs, k, rfl, hk, rfl⟩⟩ := dIdx_inv hd
  · refine Subscript_ (ev2 ha hb hx hy S fun v u s' fp fq o p S' => ?_)
    obtain ⟨t, rfl⟩ := rd_int p.rd
    obtain ⟨a1, vs, as, rfl, rfl, p1, r1⟩ := rd_list o.rd
    obtain ⟨v', fp', e1, e2, e3⟩ := r1.get hd
    refine tail_any (plainL_list p1).typeIs slot_list_getitem.lookup (wpAny_getItem_list (plainL_list p1) hi.1 (by lia) (x := v') (by simpa using e1) ?_) (subscripted_plain hns)
    exact h _ _ _ (tail_sub (b := b) o e2 e3)
  · refine Subscript_ (ev2 ha hb hx hy S fun v u s' fp fq o p S' => ?_)
    obtain ⟨t, rfl⟩ := rd_int p.rd
    obtain ⟨a1, vs, as, rfl, rfl, p1, r1⟩ := rd_tup o.rd
    obtain ⟨v', fp', e1, e2, e3⟩ := r1.get hd
    have hlt : i.toNat < xs.length := (List.getElem?_eq_some_iff.mp hd).1
    refine tail_any p1.typeIs slot_tuple_getitem.lookup (getItem_tuple p1 (by lia) (by lia) (j := i.toNat) (x := v') ?_ (by simpa using e1) ?_) (subscripted_plain hns)
    · have e := r1.length
      have h1 : ¬ i < 0 := by lia
      have h2 : i < (xs.length : Int) := by lia
      simp [seqIndex?, h1, hi.1, h2, e]
    · exact h _ _ _ (tail_sub (b := b) o e2 e3)
  · refine Subscript_ (ev2 ha hb hx hy S fun v u s' fp fq o p S' => ?_)
    obtain ⟨t, rfl⟩ := rd_int p.rd
    obtain ⟨a1, f, rfl, p1, r1⟩ := rd_dict o.rd
    obtain ⟨t', e'⟩ := r1 _ _ hk
    refine tail_any p1.typeIs slot_dict_getitem.lookup (wpAny_getItem_intMap p1 e' ?_) (subscripted_plain hns)
    exact h _ _ _ (Out.scalar (Keeps.trans' o.kp (Keeps.tok _ _)) (.int _ _))
theorem e_last {k1 : Nat} {p1 p2 : Pos} (ha : SoundE prog w m Φ c a l) : SoundE prog w m Φ c (.last a) (.Subscript l (.UnaryOp .USub (.Constant (.int 1) k1 p1) p2) pos) := fun σ d s hd S Q E h => by
  obtain ⟨x, hx, hd⟩ := bind1 hd
  obtain ⟨xs, rfl, hq⟩ := dLast_inv hd
  clear hd
  refine Subscript_ (ev1 ha hx S fun v s' fp o S' => UnaryOp_ (wpAny_Constant_int (P.neg_int ?_)))
  obtain ⟨a1, vs, as, rfl, rfl, p1, r1⟩ := rd_list o.rd
  have e := r1.length
  have hne : xs ≠ [] := by intro q; subst q; simp at hq
  have hpos : 0 < xs.length := List.length_pos_iff.mpr hne
  have hd' : xs[xs.length - 1]? = some d := by rw [← List.getLast?_eq_getElem?]; exact hq
  obtain ⟨v', fp', e1, e2, e3⟩ := r1.get hd'
  refine tail_any (plainL_list p1).typeIs slot_list_getitem.lookup (wpAny_getItem_list_neg (plainL_list p1) (by lia) (by simp only [List.size_toArray]; lia) (by lia) (x := v') ?_ ?_) rfl
  · simp only [List.size_toArray, e]
    rw [show (-1 + (xs.length : Int)).toNat = xs.length - 1 by lia]
    simpa using e1
  · exact h _ _ _ ((tail_sub (b := .none) o e2 e3).later (Keeps.tok _ _))
theorem slice_step {lo hi : Option Int} {vl vu : Value} {xs : List PyData} {s s' s₂ : Shared} {v : Value} {σ : Store} {fp : List Addr} {tf : Bool} {lower upper : Option Expr} {p1 : Pos}
    (o : Out c s s' v (.list xs) (a.clean c.own) (isVar a || a.clean c.own) tf fp) (k : Keeps s' s₂) (S₂ : SatE m c σ s₂) (pl : IsPart vl lo) (pu : IsPart vu hi) (hsz : xs.length ≤ lim) {Q : Value → Shared → Prop} {E : Value → Shared → Prop}
    (h : ∀ v s' fp, Out c s s' v (.list ((xs.take (hi.elim xs.length (clampI xs.length))).drop (lo.elim 0 (clampI xs.length)))) (isVar a || a.clean c.own) (isVar a || a.clean c.own) true fp → Q v s') :
    wpAny (model prog w) c.A (subscriptTail l (.Slice lower upper none p1) v (.ref s₂.heap.objs.size)) Q E { s₂ with heap := s₂.heap.push { cls := .type "slice", data := .fields #[vl, vu, .none] } } := by
  have ro := o.rd
  cases ro with
  | list q1 r1 =>
    have kk : Keeps s' { s₂ with heap := s₂.heap.push { cls := .type "slice", data := .fields #[vl, vu, .none] } } := Keeps.trans' k (Keeps.push _ _)
    have q2 := plainL_list (plainL_at q1 fun o' e' => Keeps.keep kk _ o' e')
    have r2 := r1.keeps (Keeps.keep kk)
    refine tail_any (s := { s₂ with heap := s₂.heap.push { cls := .type "slice", data := .fields #[vl, vu, .none] } }) (T := "list") q2.typeIs list_getitem_lookup (wpAny_getItem_list_slice q2 (Heap.IsSliceOf.new ..) pl pu .none (by simp) ?_ ?_) rfl
    · rw [slicePick_gen]
      simp only [List.size_toArray, r1.length]
      obtain ⟨f1, w1, g1⟩ := r2.take (hi.elim xs.length (clampI xs.length))
      obtain ⟨f2, w2, g2⟩ := w1.drop (lo.elim 0 (clampI xs.length))
      exact h _ _ _ (Out.newList (S₂.mono (s' := { s₂ with heap := s₂.heap.push { cls := .type "slice", data := .fields #[vl, vu, .none] } }) fun _ _ e => Heap.get?_push_of_some _ e) (Keeps.trans' o.kp kk) w2
        (fun z hz => o.u z (.tail _ (g1 z (g2 z hz)))) fun q z hz => o.inn q z (g1 z (g2 z hz)))
    · simp only [List.size_toArray, r1.length]; exact Nat.le_trans hsz lim_le
theorem e_slLH {lo hi : PE} {el eh : Expr} {p1 : Pos} (ha : SoundE prog w m Φ c a l) (hl : SoundE prog w m Φ c lo el) (hh : SoundE prog w m Φ c hi eh) : SoundE prog w m Φ c (.slLH a lo hi) (.Subscript l (.Slice (some el) (some eh) none p1) pos) := fun σ d s hd S Q E h => by
  obtain ⟨x, hx, hd⟩ := bind1 hd
  obtain ⟨y, z, hy, hz, hd⟩ := bind2 hd
  obtain ⟨xs, vl, vh, rfl, rfl, rfl, hsz, rfl⟩ := dSlLH_inv hd
  refine Subscript_ (ev1 ha hx S fun v s' fp o S' => wpAny_Slice ?_)
  rw [evalPart_some]
  refine ev1 hl hy S' fun u s₁ f1 o1 S₁ => ?_
  rw [evalPart_some]
  refine ev1 hh hz S₁ fun t s₂ f2 o2 S₂ => ?_
  rw [evalPart_none]
  refine wpAny_pure ?_
  obtain ⟨t1, rfl⟩ := rd_int o1.rd
  obtain ⟨t2, rfl⟩ := rd_int o2.rd
  exact slice_step o (Keeps.trans' o1.kp o2.kp) S₂ (.int _ _) (.int _ _) hsz fun v s' fp o' => h v s' fp o'
theorem e_slH {hi : PE} {eh : Expr} {p1 : Pos} (ha : SoundE prog w m Φ c a l) (hh : SoundE prog w m Φ c hi eh) : SoundE prog w m Φ c (.slH a hi) (.Subscript l (.Slice none (some eh) none p1) pos) := fun σ d s hd S Q E h => by
  obtain ⟨x, z, hx, hz, hd⟩ := bind2 hd
  obtain ⟨xs, vh, rfl, rfl, hsz, rfl⟩ := dSlH_inv hd
  refine Subscript_ (ev1 ha hx S fun v s' fp o S' => wpAny_Slice ?_)
  rw [evalPart_none]
  refine wpAny_pure ?_
  rw [evalPart_some]
  refine ev1 hh hz S' fun t s₂ f2 o2 S₂ => ?_
  refine wpAny_pure ?_
  obtain ⟨t2, rfl⟩ := rd_int o2.rd
  exact slice_step o o2.kp S₂ .none (.int _ _) hsz fun v s' fp o' => h v s' fp o'
theorem e_slL {lo : PE} {el : Expr} {p1 : Pos} (ha : SoundE prog w m Φ c a l) (hl : SoundE prog w m Φ c lo el) : SoundE prog w m Φ c (.slL a lo) (.Subscript l (.Slice (some el) none none p1) pos) := fun σ d s hd S Q E h => by
  obtain ⟨x, z, hx, hz, hd⟩ := bind2 hd
  obtain ⟨xs, vl, rfl, rfl, hsz, rfl⟩ := dSlL_inv hd
  refine Subscript_ (ev1 ha hx S fun v s' fp o S' => wpAny_Slice ?_)
  rw [evalPart_some]
  refine ev1 hl hz S' fun t s₂ f2 o2 S₂ => ?_
  rw [evalPart_none]
  refine wpAny_pure ?_
  refine wpAny_pure ?_
  obtain ⟨t2, rfl⟩ := rd_int o2.rd
  refine slice_step o o2.kp S₂ (.int _ _) .none hsz fun v s' fp o' => h v s' fp ?_
  have e : (xs.take (Option.elim none xs.length (clampI xs.length))) = xs := List.take_of_length_le (Nat.le_refl _)
  rw [e] at o'
  exact o'
theorem es_nil : SoundEs prog w m Φ c .nil [] := fun pos σ ds s hd S Q E h => by
  simp only [dEs_nil, Option.some.injEq] at hd; subst hd
  exact args_nil (h _ _ _ ⟨Keeps.rfl' s, .nil, fun _ q => (nomatch q), fun _ _ q => (nomatch q)⟩)
theorem es_cons {es : PEs} {rest : List Expr} (hst : ∀ x p, l ≠ .Starred x p) (ha : SoundE prog w m Φ c a l) (hs : SoundEs prog w m Φ c es rest) : SoundEs prog w m Φ c (.cons a es) (l :: rest) := fun pos σ ds s hd S Q E h => by
  simp only [dEs_cons, Option.bind_eq_some_iff, Option.some.injEq] at hd
  obtain ⟨x, hx, xs, hxs, rfl⟩ := hd
  have he : starEach (l :: rest) c.env = (false, eval l c.env) :: starEach rest c.env := by
    cases l <;> first | rfl | exact absurd rfl (hst _ _)
  refine args_cons (ev1 ha hx S fun v s' fp o S' => hs pos σ xs s' hxs S' _ E fun vs s'' fq os => h _ _ _ ⟨Keeps.trans' o.kp os.kp, .cons (o.rd.keeps (Keeps.keep os.kp)) os.rd, ?_, ?_⟩) he
  · intro z hz
    exact (List.mem_append.mp hz).elim (o.u z) (os.u z)
  · intro q z hz
    replace q := Bool.and_eq_true_iff.mp q
    exact (List.mem_append.mp hz).elim (o.cl q.1 z) (os.cl q.2 z)
theorem e_list {es : PEs} {xs : List Expr} (hs : SoundEs prog w m Φ c es xs) : SoundE prog w m Φ c (.list es) (.List xs pos) := fun σ d s hd S Q E h => by
  simp only [q_list, Option.bind_eq_some_iff] at hd
  obtain ⟨ds, hds, hd⟩ := hd
  split at hd
  · rename_i hsz
    cases hd
    refine List_ (hs pos σ ds s hds S _ E fun vs s' fp o => newList_ (h _ _ _ (Out.newList (S.mono (Keeps.keep o.kp)) o.kp o.rd o.u o.cl)) ?_)
    rw [o.rd.length]; exact Nat.le_trans hsz (by unfold sizeLine; decide)
  · cases hd
theorem e_tuple {es : PEs} {xs : List Expr} {k : Nat} (hs : SoundEs prog w m Φ c es xs) : SoundE prog w m Φ c (.tuple es) (.Tuple xs k pos) := fun σ d s hd S Q E h => by
  simp only [den_tuple, Option.bind_eq_some_iff] at hd
  obtain ⟨ds, hds, hd⟩ := hd
  split at hd
  · rename_i hsz
    cases hd
    refine Tuple_ (hs pos σ ds s hds S _ E fun vs s' fp o => newTuple_ (h _ _ (s'.heap.objs.size :: fp) ?_) ?_)
    · have hw := (S.mono (Keeps.keep o.kp)).fresh _ (size_fresh s'.heap)
      refine ⟨Keeps.trans' o.kp (Keeps.push _ _), .tuple (isTup_push _ _ _) (o.rd.keeps fun _ _ e => Heap.get?_push_of_some _ e), ?_, ?_, o.cl, fun q => nomatch q⟩
      · intro z hz
        rcases List.mem_cons.mp hz with rfl | hz
        · exact hw.1
        · exact o.u z hz
      · intro q z hz
        rcases List.mem_cons.mp hz with rfl | hz
        · exact hw.2
        · exact o.cl q z hz
    · rw [o.rd.length]; exact Nat.le_trans hsz (by unfold sizeLine; decide)
  · cases hd
end
end Mine

namespace Mine
open PySem PyProof.Rows
set_option autoImplicit false
set_option maxRecDepth 10000
section
variable {prog : Program} {w : World} {m : Mod} {Φ : Nat → List PyData → Option PyData} {c : CE} {l r : Expr} {a b : PE} {pos : Pos}
theorem e_dict0 : SoundE prog w m Φ c .dict0 (.Dict [] [] pos) := fun σ d s hd S Q E h => by
  cases hd
  have hw := S.fresh _ (size_fresh s.heap)
  refine wpAny_Dict_empty (h _ _ [s.heap.objs.size] ⟨Keeps.push _ _, .dict (Heap.IntMap.new _) (fun _ _ e => nomatch e), ?_, ?_, fun _ _ q => (nomatch q), fun q => (nomatch q)⟩)
  · intro z hz; rw [List.mem_singleton.mp hz]; exact hw.1
  · intro _ z hz; rw [List.mem_singleton.mp hz]; exact hw.2
inductive IntsOf (ns : List Int) : List Value → Prop
  | mk (ys : List (Int × Tok)) (h : ys.map (·.1) = ns) : IntsOf ns (ys.map fun p => Value.int p.1 p.2)
theorem intOf_inv {d : PyData} {i : Int} (h : intOf d = some i) : d = .int i := by
  cases d with
  | int j => cases h; rfl
  | _ => exact (nn h).elim
theorem ints_of {h : Heap} {vs : List Value} {ds : List PyData} {fp : List Addr} {ns : List Int} (r : Rds h vs ds fp) (e : allSome intOf ds = some ns) : IntsOf ns vs :=
  Rds.ind (Q := fun vs ds _ => ∀ ns, allSome intOf ds = some ns → IntsOf ns vs) (fun ns e => by cases e; exact ⟨[], rfl⟩)
    (fun h1 h2 ih ns e => by
      obtain ⟨y, ys, e1, e2, rfl⟩ := as_inv e
      cases intOf_inv e1
      obtain ⟨t, rfl⟩ := rd_int h1
      obtain ⟨zs, rfl⟩ := ih _ e2
      exact ⟨(y, t) :: zs, rfl⟩) r ns e
theorem sum_any {A : Around} {E : Value → Shared → Prop} {s : Shared} {x : Addr} {ys : List (Int × Tok)} {Q : Value → Shared → Prop} (hh : A.handled = none) (hl : s.heap.IsList x (ys.map fun p => Value.int p.1 p.2).toArray)
    (h : ∀ s' t, Keeps s s' → Q (.int (ys.map (·.1)).sum t) s') : wpAny (model prog w) A (call (.builtin "sum") [.ref x]) Q E s := by
  have e : (ys.map fun p => Value.int p.1 p.2).toArray = intItems ys.toArray := by simp [intItems]
  refine sum_intListG hh (e ▸ hl) fun h' tk t' hk => ?_
  have e2 : preSum (numAt ys.toArray) ys.toArray.size = (ys.map (·.1)).sum := by
    rw [preSum_eq, List.take_of_length_le (by simp)]
  rw [e2]
  exact h _ _ ⟨h', tk, rfl, hk⟩
theorem dSum_inv {x d : PyData} (h : dSum x = some d) : ∃ xs ns, x = .list xs ∧ xs.length ≤ lim ∧ allSome intOf xs = some ns ∧ d = .int ns.sum := by
  cases x with
  | list xs =>
    by_cases q : xs.length ≤ lim
    · obtain ⟨ns, e1, e2⟩ := Option.map_eq_some_iff.mp ((if_pos q).symm.trans h)
      exact ⟨xs, ns, rfl, q, e1, e2.symm⟩
    · exact (nn ((if_neg q).symm.trans h)).elim
  | _ => exact (nn h).elim
theorem e_sum {np p : Pos} (hm : m.Ok) (ho : EnvOk c) (hh : c.A.handled = none) (hn : c.env.kindOf (Str.ofString "sum") = some .globalImplicit) (hst : ∀ x p, l ≠ .Starred x p) (ha : SoundE prog w m Φ c a l) :
    SoundE prog w m Φ c (.sum a) (.Call (.Name (Str.ofString "sum") np) [l] [] p) := fun σ d s hd S Q E h => by
  obtain ⟨x, hx, hd⟩ := bind1 hd
  obtain ⟨xs, ns, rfl, -, e1, rfl⟩ := dSum_inv hd
  refine call1_builtin hm ho (by decide) hn (by decide) S hst (ev1 ha hx S fun v s' fp o S' => ?_)
  obtain ⟨k1, ro, -⟩ := o
  obtain ⟨z, vs, as, rfl, rfl, p1, r1⟩ := rd_list ro
  obtain ⟨ys, rfl⟩ := ints_of r1 e1
  exact sum_any hh (plainL_list p1) fun s'' t k2 => h _ _ _ (Out.scalar (Keeps.trans' k1 k2) (.int _ _))
noncomputable def CallOk (prog : Program) (w : World) (m : Mod) (Φ : Nat → List PyData → Option PyData) (n : Nat) : Prop :=
  ∀ f xs d, Φ f xs = some d → ∀ x a, m.fns[f]? = some (x, a) → ∀ A s vs fp, AOk n A → m.In s.heap → Rds s.heap vs xs fp → ∀ (Q E : Value → Shared → Prop),
    (∀ v s' fp', Keeps s s' → Rd s'.heap v d fp' → (∀ z ∈ fp', z ∈ fp ∨ s.heap.get? z = none) → (f ∈ m.twos → Two s.heap s'.heap v) → Q v s') → wpAny (model prog w) A (call (.ref a) vs) Q E s
theorem e_call {n f : Nat} {x : Str} {fa : Addr} {es : PEs} {e : Expr} {rest : List Expr} {np p : Pos} (hm : m.Ok) (ho : EnvOk c) (hA : AOk n c.A) (hΦ : CallOk prog w m Φ n) (hf : m.fns[f]? = some (x, fa))
    (hn : c.env.kindOf x = some .globalImplicit) (hdb : (x == ("__debug__" : Str)) = false) (hst : ∀ x p, e ≠ .Starred x p) (hs : SoundEs prog w m Φ c es (e :: rest)) :
    SoundE prog w m Φ c (.call f es) (.Call (.Name x np) (e :: rest) [] p) := fun σ d s hd S Q E h => by
  simp only [q_call, Option.bind_eq_some_iff] at hd
  obtain ⟨xs, hxs, hd⟩ := hd
  have hmem : (x, fa) ∈ m.fns := List.mem_of_getElem? hf
  obtain ⟨o, fd, ho1, ho2⟩ := S.md.fn x fa hmem
  refine Call_ (Calls.Name_function_global ho.hk hn (Calls.loadGlobal_global (by rw [ho.hg]; exact S.md.g) (hm.fn x fa hmem) ?_) hdb)
  have he : starEach (e :: rest) c.env = (false, eval e c.env) :: starEach rest c.env := by
    cases e <;> first | rfl | exact absurd rfl (hst _ _)
  refine callWith_def ho2 (hs p σ xs s hxs S _ E fun vs s' fp os => ⟨Keeps.keep os.kp _ _ ho1, ?_⟩) he
  have S' := S.mono (Keeps.keep os.kp)
  refine hΦ f xs d hd x fa hf c.A s' vs fp hA S'.md os.rd Q E fun v s'' fp' k r sub _ => h v s'' fp' ⟨Keeps.trans' os.kp k, r, ?_, ?_, ?_, fun q => (nomatch q)⟩
  · intro z hz
    exact (sub z hz).elim (os.u z) fun q => (S'.fresh z q).1
  · intro q z hz
    exact (sub z hz).elim (os.cl q z) fun q => (S'.fresh z q).2
  · intro q z hz
    exact (sub z (List.mem_of_mem_tail hz)).elim (os.cl q z) fun q => (S'.fresh z q).2
end
end Mine

namespace Mine
open PySem PyProof.Rows
set_option autoImplicit false
set_option maxRecDepth 100000
theorem zd_list_no_keys : typeLookup (.type "list") "keys" = pure none := by rw [typeLookup_type, builtinLookup_eq_fast]; kernel_rfl
theorem zd_entry_loop : entryFor table "dict.update.loop" = some Builtin.«dict.update.loop» := entryFor_of_tree (by kernel_rfl)
theorem zd_plain_loop : plainId "dict.update.loop" = true := by decide +kernel
section
variable {prog : Program} {w : World}
theorem zd_keys_miss {A : Around} {E : Value → Shared → Prop} {s : Shared} {x : Addr} {its : Array Value} {Q : Option Value → Shared → Prop} (hp : PlainL s.heap x its) (hA : A.handled = none)
    (h : ∀ h' tk, Keep s.heap h' → Q none { s with heap := h', toks := tk }) : wpAny (model prog w) A (getAttr? (.ref x) "keys") Q E s := by
  obtain ⟨⟨c, dct, dat, sl⟩, k, hx, hc, hd, hdat⟩ := hp
  simp only at hc hdat hd
  subst hc hdat hd
  obtain ⟨hp, g, d, tk, os⟩ := s
  have hT : ∀ tk', (⟨hp, g, d, tk', os⟩ : Shared).TypeIs (.ref x) "list" := fun _ => ⟨_, hx, rfl⟩
  have f1 := sub_AttributeError
  have f3 := F.slot_list_getattribute.lookup
  have f4 := F.slot_list_getattribute.bind (.ref x)
  have f5 := am_list_getattr_none
  unfold getAttr? getAttrBy? getAttrBy
  repeat (any_goals (first | assumption | exact hT _ | ((with_reducible show wpAny _ _ (call (Value.builtin "list.__getattribute__") _ _) _ _ _); refine call_meets F.slot_list_getattribute (hT _) am_entry_list_getattribute (F.args_list_getattribute_2 _ _) (meets_getattribute_miss_list x its k sl "keys" _ zd_list_no_keys (by decide +kernel) (by size_fits)) ⟨hx, hA, fun h' tk' e hx' => ?_⟩) | wp_step))
  obtain ⟨t', u', he⟩ := hx'.there
  show wpAny _ _ (getattributeRaised _ _ _ _ _ _ _) _ _ _
  unfold getattributeRaised
  repeat (any_goals (first | assumption | wp_step))
  exact h _ _ hx'.keeps
theorem allSome_len {α β : Type} {f : α → Option β} : ∀ (xs : List α) (qs : List β), allSome f xs = some qs → qs.length = xs.length
  | [], qs, e => by cases e; rfl
  | x :: xs, qs, e => by
    obtain ⟨y, ys, _, h2, rfl⟩ := as_inv e
    rw [List.length_cons, List.length_cons, allSome_len xs ys h2]
theorem pairOf_inv {d : PyData} {p : Int × Int} (h : pairOf d = some p) : d = .tuple [.int p.1, .int p.2] := by
  cases d <;> try exact (nn h).elim
  rename_i xs
  cases xs <;> try exact (nn h).elim
  rename_i a xs
  cases a <;> try exact (nn h).elim
  cases xs <;> try exact (nn h).elim
  rename_i b xs
  cases b <;> try exact (nn h).elim
  cases xs <;> try exact (nn h).elim
  cases h; rfl
theorem allSome_get : ∀ (xs : List PyData) (qs : List (Int × Int)) (j : Nat), allSome pairOf xs = some qs → j < xs.length → ∃ p, qs[j]? = some p ∧ xs[j]? = some (.tuple [.int p.1, .int p.2])
  | [], _, _, _, hj => (Nat.not_lt_zero _ hj).elim
  | x :: xs, qs, j, e, hj => by
    obtain ⟨y, ys, h1, h2, rfl⟩ := as_inv e
    cases j with
    | zero => exact ⟨y, rfl, by rw [pairOf_inv h1]; rfl⟩
    | succ j =>
      obtain ⟨p, q1, q2⟩ := allSome_get xs ys j h2 (Nat.lt_of_succ_lt_succ hj)
      exact ⟨p, q1, q2⟩
inductive RdPair (h : Heap) (v : Value) (a b : Int) (fp : List Addr) : Prop
  | mk (ta : Addr) (t1 t2) (e : v = .ref ta) (h1 : ta ∈ fp) (h2 : IsTup h ta #[.int a t1, .int b t2]) : RdPair h v a b fp
theorem rd_pair {h : Heap} {v : Value} {a b : Int} {fp : List Addr} (r : Rd h v (.tuple [.int a, .int b]) fp) : RdPair h v a b fp := by
  obtain ⟨ta, vs, as, rfl, rfl, q1, q2⟩ := rd_tup r
  clear r
  cases q2 with
  | cons g1 q3 =>
    obtain ⟨t1, rfl⟩ := rd_int g1
    cases q3 with
    | cons g2 q4 =>
      obtain ⟨t2, rfl⟩ := rd_int g2
      cases q4
      exact ⟨ta, t1, t2, rfl, .head _, q1⟩
theorem zd_loop {A : Around} (hh : A.handled = none) {it D src : Addr} {vs : List Value} {Q : Value → Shared → Prop} {E : Value → Shared → Prop} {h0 : Heap} {ps : List (Int × Int)} {ds : List PyData} {fp : List Addr}
    (hItD : it ≠ D) (hIs : it ≠ src) (hDs : D ≠ src) (hfi : it ∉ fp) (hfD : D ∉ fp) (hps : allSome pairOf ds = some ps) (hlen : vs.length ≤ 64) :
    ∀ (k i : Nat) (s : Shared) (f : Int → Option Value), i + k = vs.length → s.heap.IsListIter it src i → s.heap.IsList src vs.toArray → s.heap.IntMap D f → s.heap.DictLe D i → Rds s.heap vs ds fp →
      (∀ b o, b ≠ it → b ≠ D → h0.get? b = some o → s.heap.get? b = some o) →
      (∀ h' tk g, (∀ b o, b ≠ it → b ≠ D → h0.get? b = some o → h'.get? b = some o) → h'.IntMap D g → (∀ q, (∀ p ∈ ps.drop i, p.1 ≠ q) → g q = f q) → ((ps.map (·.1)).Nodup → ∀ p ∈ ps.drop i, ∃ t, g p.1 = some (.int p.2 t)) → Q .none { s with heap := h', toks := tk }) →
      codeAny (model prog w) A (.builtin "dict.update.loop" ⟨[.ref D, .ref it, rawInt i, .none], []⟩) (wants Q E) s := by
  intro k
  induction k with
  | zero =>
    intro i s f hi hit hl hm hz hr hk hQ
    have hlp : ps.length = vs.length := by
      rw [allSome_len _ _ hps, hr.length]
    refine codeAny_builtin zd_entry_loop ?_
    rw [Around.under_plainId zd_plain_loop]
    unfold Builtin.«dict.update.loop»
    show wpAny _ _ (pyNext (.ref it) >>= _) _ _ s
    refine wpAny_bind (wpAny_pyNext_list_end (A := A.in1) hh hit hl (by simp; lia) fun h' he => ?_)
    show wpAny _ _ (Builtin.Dict.addKeywords D [] >>= _) _ _ _
    refine wpAny_bind (wpAny_pure (wpAny_pure ?_))
    have hdrop : ps.drop i = [] := List.drop_eq_nil_of_le (by lia)
    refine hQ h' s.toks f (fun b o h1 h2 e => he b o h1 (hk b o h1 h2 e)) ?_ (fun _ _ => rfl) (by rw [hdrop]; intro _ p hp; cases hp)
    obtain ⟨o, es, ep, e, r⟩ := hm
    exact ⟨o, es, ep, he D o (Ne.symm hItD) e, r⟩
  | succ k ih =>
    intro i s f hi hit hl hm hz hr hk hQ
    have hlt : i < vs.length := by lia
    obtain ⟨p, hp1, hp2⟩ := allSome_get ds ps i hps (by rw [← hr.length]; exact hlt)
    obtain ⟨v, fp', e1, e2, e3⟩ := hr.get hp2
    obtain ⟨ta, t1, t2, rfl, hta0, q1⟩ := rd_pair e2
    clear e2
    refine codeAny_builtin zd_entry_loop ?_
    rw [Around.under_plainId zd_plain_loop]
    unfold Builtin.«dict.update.loop»
    show wpAny _ _ (pyNext (.ref it) >>= _) _ _ s
    refine wpAny_bind (wpAny_pyNext_list_item (A := A.in1) hit hl (x := .ref ta) (by simpa using e1) fun h1 hit1 hs1 => ?_)
    have hta : ta ∈ fp := e3 ta hta0
    have hne : ta ≠ it := fun e => hfi (e ▸ hta)
    have q1' : IsTup h1 ta #[.int p.1 t1, .int p.2 t2] := isTup_at q1 fun o e => hs1.extBut ta o hne e
    obtain ⟨ot, eo1, eo2, eo3, eo4⟩ := id q1'
    refine wpAny_bind (wpAny_holding ?_)
    refine wpAny_bind (wpAny_tryCatch ?_)
    unfold Builtin.Dict.pairItems
    refine wpAny_bind (wpAny_typeOf (T := "tuple") ⟨ot, eo1, eo2⟩ ?_)
    rw [if_pos (by decide)]
    refine wpAny_bind (wpAny_seqItems eo1 eo4 (wpAny_pure ?_))
    show wpAny _ _ (holding [.int p.1 t1, .int p.2 t2] (dictSet D (.int p.1 t1) (.int p.2 t2))) _ _ _
    refine wpAny_holding (wpAny_dictSet_int_le (n := i) (intMap_at hm fun o e => hs1.extBut D o (Ne.symm hItD) e) (hz.sameBut hs1 (Ne.symm hItD)) (by unfold sizeLine; lia) fun h2 hm2 hz2 hs2 => ?_)
    refine wpAny_pure ⟨Code.quiet_builtin _ (by decide +kernel), ?_⟩
    have hI : rawInt ((i : Int) + 1) = rawInt ((i + 1 : Nat) : Int) := by simp
    rw [hI]
    have hIl2 : h2.IsListIter it src (i + 1) := hit1.extBut hs2.extBut hItD
    have hl2 : h2.IsList src vs.toArray := (hl.extBut hs1.extBut (Ne.symm hIs)).extBut hs2.extBut (Ne.symm hDs)
    have hr2 : Rds h2 vs ds fp := hr.at fun a ha o e => hs2.extBut a o (fun q => hfD (q ▸ ha)) (hs1.extBut a o (fun q => hfi (q ▸ ha)) e)
    have hdrop : ps.drop i = p :: ps.drop (i + 1) := by
      obtain ⟨hlt', hx⟩ := List.getElem?_eq_some_iff.mp hp1
      rw [List.drop_eq_getElem_cons hlt', hx]
    refine ih (i + 1) _ _ (by lia) hIl2 hl2 hm2 hz2 hr2 (fun b o b1 b2 e => hs2.extBut b o b2 (hs1.extBut b o b1 (hk b o b1 b2 e))) fun h' tk g hk' hg hg1 hg2 => ?_
    refine hQ h' tk g hk' hg (fun q hq => ?_) (fun hnd p' hp' => ?_)
    · rw [hdrop] at hq
      rw [hg1 q fun p' hp' => hq p' (.tail _ hp'), if_neg (fun e => hq p (.head _) e.symm)]
    · rw [hdrop] at hp'
      rcases List.mem_cons.mp hp' with rfl | hp'
      · refine ⟨t2, ?_⟩
        rw [hg1 p'.1 fun p'' hp'' e => ?_, if_pos rfl]
        have hnd' : ((ps.drop i).map (·.1)).Nodup := by
          rw [List.map_drop]; exact hnd.sublist (List.drop_sublist _ _)
        rw [hdrop, List.map_cons, List.nodup_cons] at hnd'
        exact hnd'.1 (List.mem_map.mpr ⟨p'', hp'', e⟩)
      · exact hg2 hnd p' hp'
theorem zd_call {A : Around} {E : Value → Shared → Prop} {s : Shared} (hh : A.handled = none) {src : Addr} {vs : List Value} {ds : List PyData} {fp : List Addr} {ps : List (Int × Int)} {Q : Value → Shared → Prop}
    (hp : PlainL s.heap src vs.toArray) (hr : Rds s.heap vs ds fp) (hps : allSome pairOf ds = some ps) (hlen : vs.length ≤ 64)
    (h : ∀ h' tk g D, Keep s.heap h' → s.heap.get? D = none → h'.IntMap D g → ((ps.map (·.1)).Nodup → ∀ p ∈ ps, ∃ t, g p.1 = some (.int p.2 t)) → Q (.ref D) { s with heap := h', toks := tk }) :
    wpAny (model prog w) A (call (.type "dict") [.ref src]) Q E s := by
  refine callType_codes (Q₁ := fun obj s₁ => obj = .ref s.heap.objs.size ∧ s₁ = { s with heap := s.heap.push { cls := .type "dict", data := .dict #[] } }) F.kt_called_dict (F.kt_typeCall_dict_1 _) F.entry_dict_init (kt_code_dict_new _ ⟨rfl, rfl⟩) ?_
  rintro obj s₁ ⟨rfl, rfl⟩
  have hnew : (s.heap.push { cls := .type "dict", data := .dict #[] }).IntMap s.heap.objs.size fun _ => none := Heap.IntMap.new s.heap
  have hT : ({ s with heap := s.heap.push { cls := .type "dict", data := .dict #[] } } : Shared).TypeIs (.ref s.heap.objs.size) "dict" := hnew.typeIs
  have hp1 : PlainL (s.heap.push { cls := .type "dict", data := .dict #[] }) src vs.toArray := plainL_at hp fun o e => Heap.get?_push_of_some _ e
  have hl1 := plainL_list hp1
  have hsrc : src < s.heap.objs.size := by obtain ⟨o, n, e, _⟩ := hp; exact Heap.lt_size e
  refine ⟨hT, F.args_dict_init_2 _ _, ?_⟩
  unfold Builtin.«dict.__init__»
  refine wpAny_bind ?_
  unfold Builtin.Dict.selfAndRest
  refine wpAny_bind (wpAny_notOrdered_dict hT ?_)
  show wpAny _ _ (pure (s.heap.objs.size, [Value.ref src])) _ _ _
  refine wpAny_pure ?_
  show wpAny _ _ (Builtin.Dict.updateFrom "dict.__init__" s.heap.objs.size (.ref src) [] .none) _ _ _
  unfold Builtin.Dict.updateFrom
  refine wpAny_bind (wpAny_typeOf hl1.typeIs ?_)
  rw [if_pos (by decide)]
  refine wpAny_bind (zd_keys_miss hp1 hh fun h1 tk1 hk1 => ?_)
  simp only [Option.isNone_none, if_true]
  refine wpAny_bind (wpAny_rule (wpAny_bind ?_))
  have hl2 : h1.IsList src vs.toArray := let ⟨o, e, r⟩ := hl1; ⟨o, hk1 _ _ e, r⟩
  refine wpAny_pyIter_list (s := { s with heap := h1, toks := tk1 }) hl2 ?_
  refine wpAny_pure ⟨Code.quiet_builtin _ (by decide +kernel), ?_⟩
  have hsz1 : s.heap.objs.size < h1.objs.size := Heap.lt_size (hk1 _ _ (Heap.get?_push_size s.heap (o := { cls := .type "dict", data := .dict #[] }) rfl))
  have hdom : ∀ a ∈ fp, a < s.heap.objs.size := fun a ha => by obtain ⟨o, e⟩ := hr.dom a ha; exact Heap.lt_size e
  have hkk : Keep s.heap (h1.push { cls := .type "list_iterator", data := .fields #[.ref src, .int 0 0] }) := fun b o e => Heap.get?_push_of_some _ (hk1 _ _ (Heap.get?_push_of_some _ e))
  refine zd_loop (h0 := s.heap) (A := A.in1) hh (it := h1.objs.size) (D := s.heap.objs.size) (src := src) (ds := ds) (fp := fp) (ps := ps) (Nat.ne_of_gt hsz1) (Nat.ne_of_gt (Nat.lt_trans hsrc hsz1)) (Nat.ne_of_gt hsrc) (fun q => Nat.lt_irrefl _ (Nat.lt_trans hsz1 (hdom _ q))) (fun q => Nat.lt_irrefl _ (hdom _ q)) hps hlen
    vs.length 0 { s with heap := h1.push { cls := .type "list_iterator", data := .fields #[.ref src, .int 0 0] }, toks := tk1 } (fun _ => none) (by lia)
    ⟨_, Heap.get?_push_size _ rfl, rfl, rfl⟩ (let ⟨o, e, r⟩ := hl2; ⟨o, Heap.get?_push_of_some _ e, r⟩) (intMap_at hnew fun o e => Heap.get?_push_of_some _ (hk1 _ _ e)) ?_ (hr.keeps hkk) (fun b o _ _ e => hkk b o e) ?_
  · intro o es ep ho hd
    have : (h1.push { cls := .type "list_iterator", data := .fields #[.ref src, .int 0 0] }).get? s.heap.objs.size = some { cls := .type "dict", data := .dict #[] } := Heap.get?_push_of_some _ (hk1 _ _ (Heap.get?_push_size _ rfl))
    rw [this] at ho; cases ho; cases hd; exact Nat.le_refl _
  · intro h' tk g hk' hg _ hg2
    refine ⟨rfl, h h' tk g s.heap.objs.size (fun b o e => hk' b o (Nat.ne_of_lt (Nat.lt_trans (Heap.lt_size e) hsz1)) (Nat.ne_of_lt (Heap.lt_size e)) e) (size_fresh _) hg (by simpa using hg2)⟩
end
section
variable {prog : Program} {w : World} {m : Mod} {Φ : Nat → List PyData → Option PyData} {c : CE} {l r : Expr} {a b : PE} {pos : Pos}
theorem dictGet_pairs : ∀ (ps : List (Int × Int)) (k v : Int), dictGet (ps.map fun p => (PyData.int p.1, PyData.int p.2)) k = some v → (k, v) ∈ ps
  | [], k, v, e => by simp [o_d0] at e
  | p :: ps, k, v, e => by
    simp only [List.map_cons, o_dg] at e
    split at e
    · rename_i hk; cases e; subst hk; exact .head _
    · exact .tail _ (dictGet_pairs ps k v e)
theorem e_dictOf {np p : Pos} (hm : m.Ok) (ho : EnvOk c) (hh : c.A.handled = none) (hn : c.env.kindOf (Str.ofString "dict") = some .globalImplicit) (hst : ∀ x p, l ≠ .Starred x p) (ha : SoundE prog w m Φ c a l) :
    SoundE prog w m Φ c (.dictOf a) (.Call (.Name (Str.ofString "dict") np) [l] [] p) := fun σ d s hd S Q E h => by
  simp only [q_dictOf, Option.bind_eq_some_iff] at hd
  obtain ⟨x, hx, hd⟩ := hd
  refine call1_type hm ho (by decide) hn (by decide) S hst (ev1 ha hx S fun v s' fp o S' => ?_)
  unfold dDictOf at hd
  split at hd
  · split at hd
    · rename_i hlen
      split at hd
      · rename_i ps hps
        split at hd
        · rename_i hnd
          cases hd
          obtain ⟨k1, ro, -⟩ := o
          cases ro with
          | list p1 r1 =>
            refine zd_call hh p1 r1 hps (by rw [r1.length]; exact hlen) fun h' tk g D hk hD hg hgp => ?_
            have hw := S'.fresh _ hD
            refine h _ _ [D] ⟨Keeps.trans' k1 ⟨h', tk, rfl, hk⟩, .dict hg (fun k v e => hgp hnd (k, v) (dictGet_pairs ps k v e)), ?_, ?_, fun _ _ q => (nomatch q), fun q => (nomatch q)⟩
            · intro z hz; rw [List.mem_singleton.mp hz]; exact hw.1
            · intro _ z hz; rw [List.mem_singleton.mp hz]; exact hw.2
        · cases hd
      · cases hd
    · cases hd
  · cases hd
end
end Mine

namespace Mine
open PySem PyProof.Rows
set_option autoImplicit false
set_option maxRecDepth 10000
section
variable {prog : Program} {w : World} {m : Mod} {Φ : Nat → List PyData → Option PyData} {c : CE} {l r : Expr} {a b : PE} {pos : Pos}
structure ItOk (prog : Program) (w : World) (c : CE) (s s₂ : Shared) (I : Addr) (items : List PyData) (fpw fps : List Addr) (P : Nat → Value → Prop) (St : Nat → Heap → Prop) (cl : Bool) : Prop where
  kp : Keeps s s₂
  new : s.heap.get? I = none
  wk : Walks prog w c.A I fpw [I] items.length P St
  st : St 0 s₂.heap
  flds : ∀ j h, St j h → ∃ o vs, h.get? I = some o ∧ o.data = .fields vs
  sub : ∀ b ∈ fpw, b = I ∨ b ∈ fps
  dom : ∀ b ∈ fps, ∃ o, s₂.heap.get? b = some o
  u : ∀ b ∈ fps, c.U b
  cl : cl = true → ∀ b ∈ fps, b ∉ c.W
  iu : c.U I ∧ I ∉ c.W
  off : I ∉ fps
  item : ∀ j v, P j v → ∀ d, items[j]? = some d → ∃ fp, Rd s₂.heap v d fp ∧ ∀ a ∈ fp, a ∈ fps
  len : items.length ≤ lim
  lt : ∀ j v, P j v → j < items.length
theorem walks_lt {prog : Program} {w : World} {A : Around} {I : Addr} {fp wr : List Addr} {n : Nat} {P : Nat → Value → Prop} {St : Nat → Heap → Prop} (W : Walks prog w A I fp wr n P St) : Walks prog w A I fp wr n (fun i v => P i v ∧ i < n) St where
  sub := W.sub
  frame := W.frame
  item := fun i s Q E hi st hQ => W.item i s Q E hi st fun v h' tk hp => hQ v h' tk ⟨hp, hi⟩
  done := W.done
  self := W.self
inductive SrcOk (prog : Program) (w : World) (m : Mod) (Φ : Nat → List PyData → Option PyData) (c : CE) : Bool → PE → Expr → Prop
  | list {a : PE} {e : Expr} : SoundE prog w m Φ c a e → SrcOk prog w m Φ c false a e
  | range {a : PE} {e : Expr} {p1 p2 : Pos} : m.Ok → EnvOk c → c.env.kindOf (Str.ofString "range") = some .globalImplicit → (∀ x p, e ≠ .Starred x p) → SoundE prog w m Φ c a e → SrcOk prog w m Φ c true a (.Call (.Name (Str.ofString "range") p1) [e] [] p2)
theorem range_small {n : Int} (h1 : -1048576 ≤ n) (h : n ≤ 1048576) : Builtin.Range.small 0 n 1 = true := by
  unfold Builtin.Range.small Builtin.Range.rangeFitsLong
  rw [rangeSize_one]
  have : (if (0 : Int) < n then n - 0 else 0) ≤ 1048576 ∧ 0 ≤ (if (0 : Int) < n then n - 0 else 0) := by split <;> lia
  simp only [Bool.and_eq_true, Bool.or_eq_true, decide_eq_true_eq, beq_iff_eq]
  refine ⟨⟨⟨⟨?_, ?_⟩, ?_⟩, ?_⟩, ?_⟩
  all_goals first | lia | (simp; lia) | skip
theorem iter_any (hh : c.A.handled = none) {rng : Bool} {src : PE} {e : Expr} (hs : SrcOk prog w m Φ c rng src e) {σ : Store} {s : Shared} {x : PyData} {items : List PyData} (hx : denE Φ src σ = some x) (hi : itemsOf rng x = some items) (S : SatE m c σ s)
    {K : Value → Shared → Prop} {E : Value → Shared → Prop}
    (h : ∀ I s₂ fpw fps P St, ItOk prog w c s s₂ I items fpw fps P St (src.clean c.own) → SatE m c σ s₂ → K (.ref I) s₂) :
    wpAny (model prog w) c.A (eval e c.env) (fun xv s₁ => wpAny (model prog w) c.A (pyIter xv) K E s₁) E s := by
  cases hs with
  | list ha =>
    refine ev1 ha hx S fun v s₁ fp o S₁ => ?_
    unfold itemsOf at hi
    split at hi
    · simp only [Bool.false_eq_true, if_false] at hi
      split at hi
      · rename_i xs hlen
        cases hi
        have ro := o.rd
        cases ro with
        | list p1 r1 =>
          rename_i ax vs as
          have hax : ax ≠ s₁.heap.objs.size := by obtain ⟨q, n, e, _⟩ := p1; exact Nat.ne_of_lt (Heap.lt_size e)
          have hf := size_fresh s₁.heap
          have W := walks_lt (Walks.list (prog := prog) (w := w) hh s₁.heap.objs.size ax hax vs.toArray)
          have hl : vs.toArray.size = items.length := by simp [r1.length]
          rw [hl] at W
          have kpush : Keep s₁.heap (s₁.heap.push { cls := .type "list_iterator", data := .fields #[.ref ax, .int 0 0] }) := fun b o e => Heap.get?_push_of_some _ e
          refine wpAny_pyIter_list (plainL_list p1) (h _ _ _ (ax :: as) _ _ ⟨Keeps.trans' o.kp (Keeps.push _ _), none_of_keep (Keeps.keep o.kp) hf, W, ⟨⟨_, Heap.get?_push_size _ rfl, rfl, rfl⟩, (plainL_list (plainL_at p1 fun o e => kpush _ o e))⟩, ?_, ?_, ?_, o.u, o.cl, S₁.fresh _ hf, ?_, ?_, hlen, fun _ _ q => q.2⟩
            (S₁.mono (s' := { s₁ with heap := s₁.heap.push { cls := .type "list_iterator", data := .fields #[.ref ax, .int 0 0] } }) kpush))
          · rintro j h ⟨⟨o, e1, _, e2⟩, _⟩; exact ⟨o, _, e1, e2⟩
          · intro b hb
            rcases List.mem_cons.mp hb with rfl | hb
            · exact .inl rfl
            · rw [List.mem_singleton.mp hb]; exact .inr (.head _)
          · intro b hb
            obtain ⟨q, e⟩ := o.rd.dom b hb
            exact ⟨q, kpush _ _ e⟩
          · intro hm
            obtain ⟨q, e⟩ := o.rd.dom _ hm
            rw [hf] at e; cases e
          · rintro j v ⟨hP, _⟩ d hd
            obtain ⟨v', fp', e1, e2, e3⟩ := r1.get hd
            have : v' = v := by
              have hP' : vs[j]? = some v := by simpa using hP
              rw [e1] at hP'; exact Option.some.inj hP'
            subst this
            exact ⟨fp', e2.keeps kpush, fun z hz => .tail _ (e3 z hz)⟩
      · cases hi
    · simp at hi
    · cases hi
  | range hm ho hn hst ha =>
    refine call1_type hm ho (by decide) hn (by decide) S hst (ev1 ha hx S fun v s₁ fp o S₁ => ?_)
    unfold itemsOf at hi
    split at hi
    · simp at hi
    · simp only [if_true] at hi
      split at hi
      · rename_i n hle
        cases hi
        have ro := o.rd
        cases ro with | int _ t => ?_
        refine call_range_1 ?_
        have hf0 := size_fresh s₁.heap
        generalize hS₂ : ({ s₁ with heap := s₁.heap.push { cls := .type "range", data := .fields #[.int 0 s₁.toks, .int n t, .int 1 (s₁.toks + 1)] }, toks := s₁.toks + 1 + 1 } : Shared) = s₃
        have hr : IsRange s₃.heap s₁.heap.objs.size 0 n 1 s₁.toks t (s₁.toks + 1) := by rw [← hS₂]; exact IsRange.new ..
        have k3 : Keeps s₁ s₃ := by rw [← hS₂]; exact ⟨_, _, rfl, fun _ _ e => Heap.get?_push_of_some _ e⟩
        have S₃ := S₁.mono (Keeps.keep k3)
        have hf := size_fresh s₃.heap
        have hlen : (rangeOf n).length = n.toNat := by simp [rangeOf]
        have hlim : n.toNat ≤ lim := by unfold lim; lia
        have W := walks_lt (Walks.range (prog := prog) (w := w) hh s₃.heap.objs.size 0 1 (rangeOf n).length)
        have hsm : Builtin.Range.small 0 n 1 = true := range_small (by lia) (by lia)
        have hsz : Builtin.Range.rangeSize 0 n 1 = (((rangeOf n).length : Nat) : Int) := by rw [rangeSize_one, hlen]; split <;> lia
        refine wpAny_pyIter_range hr hsm ?_
        rw [hsz]
        refine h _ _ _ [] _ _ ⟨Keeps.trans' o.kp (Keeps.trans' k3 (Keeps.push _ _)), none_of_keep (Keeps.keep (Keeps.trans' o.kp k3)) hf, W, ?_, ?_, ?_, fun _ q => (nomatch q), fun _ q => (nomatch q), fun _ _ q => (nomatch q), S₃.fresh _ hf, fun q => (nomatch q), ?_, by rw [hlen]; exact hlim, fun _ _ q => q.2⟩
          (S₃.mono (s' := { s₃ with heap := s₃.heap.push { cls := .type "range_iterator", data := .fields #[rawInt 0, rawInt ((rangeOf n).length : Nat), rawInt 1] } }) fun _ _ e => Heap.get?_push_of_some _ e)
        · have := Heap.get?_push_size s₃.heap (o := { cls := .type "range_iterator", data := .fields #[rawInt 0, rawInt ((rangeOf n).length : Nat), rawInt 1] }) rfl
          simpa [IsRangeIter] using this
        · intro j h st; exact ⟨_, _, st, rfl⟩
        · intro b hb; exact .inl (List.mem_singleton.mp hb)
        · rintro j v ⟨⟨t', rfl⟩, _⟩ d hd
          have : d = .int (j : Int) := by
            rw [rangeOf, List.getElem?_map] at hd
            obtain ⟨q, hq, rfl⟩ := Option.map_eq_some_iff.mp hd
            obtain ⟨h1, h2⟩ := List.getElem?_eq_some_iff.mp hq
            rw [List.getElem_range] at h2
            rw [h2]
          subst this
          have e : (0 : Int) + (j : Int) * 1 = j := by lia
          rw [e]
          exact ⟨[], .int _ _, fun _ q => (nomatch q)⟩
      · cases hi
    · cases hi
end
end Mine

namespace Mine
open PySem PyProof.Rows
set_option autoImplicit false
set_option maxRecDepth 10000
noncomputable def closOf (cells : List (Str × Addr)) : List (Str × NameKind) → List (Str × Addr) → List (Str × Addr)
  | [], acc => acc
  | (n, k) :: r, acc => if k == .free then (match cells.lookup n with | some a => closOf cells r ((n, a) :: acc) | none => closOf cells r acc) else closOf cells r acc
theorem closureFor_eq {scope : Scope} {env : Env} (h : ∀ x ∈ scope.names, x.2 = .free → (env.cells.lookup x.1).isSome = true) : closureFor scope env = pure (closOf env.cells scope.names []) := by
  unfold closureFor
  have : ∀ (names : List (Str × NameKind)) (acc : List (Str × Addr)), (∀ x ∈ names, x.2 = .free → (env.cells.lookup x.1).isSome = true) →
      (forIn names acc (fun (x : Str × NameKind) (r : List (Str × Addr)) => match x with | (name, kind) => if (kind == .free) = true then do let a ← cellOf env name; pure (ForInStep.yield ((name, a) :: r)) else pure (ForInStep.yield r)) : Sem (List (Str × Addr))) = pure (closOf env.cells names acc) := by
    intro names
    induction names with
    | nil => intro acc _; rfl
    | cons x names ih =>
      intro acc hx
      obtain ⟨n, k⟩ := x
      rw [List.forIn_cons]
      have ih' := fun acc => ih acc fun y hy => hx y (.tail _ hy)
      by_cases hk : (k == NameKind.free) = true
      · have h1 := hx (n, k) (.head _) (by simpa using hk)
        obtain ⟨a, ha⟩ := Option.isSome_iff_exists.mp h1
        simp only [hk, if_true, closOf]
        unfold cellOf
        simp only [ha, pure_bind]
        exact ih' _
      · simp only [hk, closOf]
        rw [if_neg Bool.false_ne_true, if_neg Bool.false_ne_true, pure_bind]
        exact ih' _
  have e := this scope.names [] h
  simp only [bind_pure]
  exact e
theorem closOf_sound {cells : List (Str × Addr)} : ∀ (names : List (Str × NameKind)) (acc : List (Str × Addr)), (∀ p ∈ acc, cells.lookup p.1 = some p.2) → ∀ p ∈ closOf cells names acc, cells.lookup p.1 = some p.2
  | [], acc, h => h
  | (n, k) :: r, acc, h => by
    unfold closOf
    split
    · split
      · rename_i a ha
        refine closOf_sound r _ fun p hp => ?_
        rcases List.mem_cons.mp hp with rfl | hp
        · exact ha
        · exact h p hp
      · exact closOf_sound r acc h
    · exact closOf_sound r acc h
theorem closOf_keeps {cells : List (Str × Addr)} : ∀ (names : List (Str × NameKind)) (acc : List (Str × Addr)), ∀ p ∈ acc, p ∈ closOf cells names acc
  | [], acc, p, h => h
  | (n, k) :: r, acc, p, h => by
    unfold closOf
    split
    · split
      · exact closOf_keeps r _ p (.tail _ h)
      · exact closOf_keeps r acc p h
    · exact closOf_keeps r acc p h
theorem closOf_has {cells : List (Str × Addr)} {y : Str} {a : Addr} (hy : cells.lookup y = some a) : ∀ (names : List (Str × NameKind)) (acc : List (Str × Addr)), (y, NameKind.free) ∈ names → (y, a) ∈ closOf cells names acc
  | (n, k) :: r, acc, h => by
    unfold closOf
    rcases List.mem_cons.mp h with e | h
    · cases e
      simp only [beq_self_eq_true, if_true, hy]
      exact closOf_keeps r _ _ (.head _)
    · split
      · split
        · exact closOf_has hy r _ h
        · exact closOf_has hy r _ h
      · exact closOf_has hy r _ h
theorem mem_of_lookup' {α : Type} : ∀ {l : List (Str × α)} {n : Str} {c : α}, l.lookup n = some c → (n, c) ∈ l
  | (k, v) :: r, n, c, h => by
    rw [List.lookup_cons] at h
    split at h
    · rename_i hb; cases h; rw [eq_of_beq hb]; exact .head _
    · exact .tail _ (mem_of_lookup' h)
theorem lookup_of_mem' {α : Type} : ∀ {l : List (Str × α)} {n : Str} {c : α}, (n, c) ∈ l → ∃ c', l.lookup n = some c'
  | (k, v) :: r, n, c, h => by
    rw [List.lookup_cons]
    split
    · exact ⟨_, rfl⟩
    · rename_i hb
      rcases List.mem_cons.mp h with e | h
      · cases e; simp at hb
      · exact lookup_of_mem' h
theorem closOf_lookup {cells : List (Str × Addr)} {names : List (Str × NameKind)} {y : Str} {a : Addr} (hy : cells.lookup y = some a) (hm : (y, NameKind.free) ∈ names) : (closOf cells names []).lookup y = some a := by
  obtain ⟨a', e⟩ := lookup_of_mem' (closOf_has hy names [] hm)
  have := closOf_sound names [] (fun _ q => (nomatch q)) (y, a') (mem_of_lookup' e)
  simp only [hy] at this
  rw [e, ← this]
noncomputable def relNames (kind : Str → Option NameKind) (names : List (Str × NameKind)) : List (Str × NameKind) :=
  names.map fun (n, k) => if (k == .free && kind n == some .cell) then (n, .cell) else (n, k)
theorem relabel_names {scope : Scope} {env : Env} (hk : env.scope.kind = .function) : (relabel scope env).names = relNames env.kindOf scope.names := by
  unfold relabel relNames
  simp only [hk]
  apply List.map_congr_left
  intro x _
  obtain ⟨n, k⟩ := x
  simp
theorem relNames_free {kind : Str → Option NameKind} {y : Str} (hc : kind y = some .cell) : ∀ {names : List (Str × NameKind)}, names.lookup y = some .free → (relNames kind names).lookup y = some .cell
  | (n, k) :: r, h => by
    rw [List.lookup_cons] at h
    show List.lookup y ((if (k == .free && kind n == some .cell) = true then (n, NameKind.cell) else (n, k)) :: relNames kind r) = _
    split at h
    · rename_i hb
      cases h
      rw [eq_of_beq hb] at hc
      simp [hc, List.lookup_cons, hb]
    · rename_i hb
      have ih := relNames_free hc h
      split <;> simp only [List.lookup_cons, hb] <;> exact ih
theorem compD_all {t : PyData → Option Bool} {g : PyData → Option PyData} : ∀ {ds rs : List PyData}, compD t g ds = some rs → ∀ d ∈ ds, d.canLay0 = true ∧ ∃ b, t d = some b ∧ (b = true → ∃ k, g d = some (.int k))
  | [], _, _, d, h => nomatch h
  | x :: ds, rs, e, d, h => by
    unfold compD at e
    split at e
    · rename_i hl
      split at e
      · rename_i ht
        split at e
        · rename_i k hg
          split at e
          · rename_i r hr
            rcases List.mem_cons.mp h with rfl | h
            · exact ⟨hl, true, ht, fun _ => ⟨k, hg⟩⟩
            · exact compD_all hr d h
          · cases e
        · cases e
      · rename_i ht
        rcases List.mem_cons.mp h with rfl | h
        · exact ⟨hl, false, ht, fun q => (nomatch q)⟩
        · exact compD_all e d h
      · cases e
    · cases e
noncomputable def CompP (h : Heap) (t : PyData → Option Bool) (v : Value) : Prop := ∃ d fp, Rd h v d fp ∧ d.canLay0 = true ∧ t d = some true
noncomputable def CompF (h : Heap) (g : PyData → Option PyData) (v y : Value) : Prop := ∃ d fp k tk, Rd h v d fp ∧ d.canLay0 = true ∧ g d = some (.int k) ∧ y = .int k tk
open Classical in
noncomputable def compP (h : Heap) (t : PyData → Option Bool) (v : Value) : Bool := decide (CompP h t v)
theorem not_dict {d : PyData} (h : d.canLay0 = true) : ∀ kvs, d ≠ .dict kvs := fun kvs e => by subst e; simp [PyData.canLay0] at h
open Classical in
theorem compP_eq {h : Heap} {t : PyData → Option Bool} {v : Value} {d : PyData} {fp : List Addr} {b : Bool} (r : Rd h v d fp) (hl : d.canLay0 = true) (ht : t d = some b) : compP h t v = b := by
  unfold compP
  cases b with
  | true => exact decide_eq_true ⟨d, fp, r, hl, ht⟩
  | false =>
    refine decide_eq_false ?_
    rintro ⟨d', fp', r', hl', ht'⟩
    have := Rd.det r r' (not_dict hl) hl
    subst this
    rw [ht] at ht'; cases ht'
theorem comp_pair {h h' : Heap} {t : PyData → Option Bool} {g : PyData → Option PyData} : ∀ {ds rs : List PyData} {vs ys : List Value}, vs.length = ds.length → (∀ (j : Nat) v d, vs[j]? = some v → ds[j]? = some d → ∃ fp, Rd h v d fp) → compD t g ds = some rs →
    Paired (CompF h g) (vs.filter (compP h t)) ys → Rds h' ys rs []
  | [], rs, vs, ys, hl, hv, e, hp => by
    simp [compD] at e; subst e
    have : vs = [] := List.length_eq_zero_iff.mp hl
    subst this
    cases hp; exact .nil
  | d :: ds, rs, [], ys, hl, hv, e, hp => by simp at hl
  | d :: ds, rs, v :: vs, ys, hl, hv, e, hp => by
    obtain ⟨fp, rv⟩ := hv 0 v d rfl rfl
    have hv' : ∀ j v' d', vs[j]? = some v' → ds[j]? = some d' → ∃ fp, Rd h v' d' fp := fun j v' d' e1 e2 => hv (j + 1) v' d' (by simpa using e1) (by simpa using e2)
    unfold compD at e
    split at e
    · rename_i hcl
      split at e
      · rename_i ht
        split at e
        · rename_i k hg
          split at e
          · rename_i r hr
            cases e
            rw [List.filter_cons, if_pos (compP_eq rv hcl ht)] at hp
            cases hp with
            | cons hF hp =>
              obtain ⟨d', fp', k', tk, r', hl', hg', rfl⟩ := hF
              have := Rd.det rv r' (not_dict hcl) hcl
              subst this
              rw [hg] at hg'; cases hg'
              exact .cons (as := []) (.int _ _) (comp_pair (by simpa using hl) hv' hr hp)
          · cases e
        · cases e
      · rename_i ht
        rw [List.filter_cons, if_neg (by rw [compP_eq rv hcl ht]; exact Bool.false_ne_true)] at hp
        exact comp_pair (by simpa using hl) hv' e hp
      · cases e
    · cases e
section
variable {prog : Program} {w : World} {m : Mod} {Φ : Nat → List PyData → Option PyData} {c : CE} {pos : Pos}
noncomputable def compCE (c : CE) (scope : Scope) (x : Str) (caps : List Nat) (C : Addr) : CE :=
  { A := c.A, env := compEnvC scope (closOf c.env.cells scope.names []) C c.env, names := x :: caps.map (fun i => (c.names[i]?).getD ""), own := [], U := c.U, W := [] }
structure CompOk (c : CE) (scope : Scope) (x : Str) (caps : List Nat) : Prop where
  hk : scope.kind = .function
  cell : ∀ y ∈ scope.names, y.2 ≠ .cell
  names : ∀ y ∈ scope.names, y.2 = .local → scope.names.lookup y.1 = some .local
  hx : scope.names.lookup x = some .local
  caps : ∀ i ∈ caps, ∃ y, c.names[i]? = some y ∧ c.env.kindOf y = some .cell ∧ scope.names.lookup y = some .free
  free : ∀ y ∈ scope.names, y.2 = .free → (c.env.cells.lookup y.1).isSome = true
theorem comp_sat {scope : Scope} {x : Str} {caps : List Nat} (hk : CompOk c scope x caps) (ho : EnvOk c) {σ : Store} {s s₃ : Shared} {C : Addr} {v : Value} {d : PyData} {m₃ : Str → Option Value} {fp : List Addr} (S : SatE m c σ s) (kp : Keep s.heap s₃.heap)
    (hn : s₃.heap.Ns C m₃) (hm : m₃ x = some v) (r : Rd s₃.heap v d fp) (u : ∀ a ∈ fp, c.U a) : SatE m (compCE c scope x caps C) (some d :: caps.map σ.get) s₃ where
  md := S.md.keeps kp
  fresh := fun a e => ⟨(S.fresh a (none_of_keep kp e)).1, fun q => (nomatch q)⟩
  vals := fun i d' e => by
    have nope : ∀ {p : Prop}, i ∈ (compCE c scope x caps C).own → p := fun q => (nomatch q)
    cases i with
    | zero =>
      have : d' = d := by simpa [Store.get] using e.symm
      subst this
      exact ⟨x, v, fp, rfl, .inl ⟨lookup_relabel_local hk.hx, m₃, hn, hm⟩, r, u, fun _ _ _ q => (nomatch q), nope⟩
    | succ j =>
      have e' : ((caps.map σ.get)[j]?).join = some d' := by simpa [Store.get] using e
      rw [List.getElem?_map] at e'
      cases hc : caps[j]? with
      | none => rw [hc] at e'; simp at e'
      | some i' =>
        rw [hc] at e'
        have e2 : σ.get i' = some d' := by simpa using e'
        obtain ⟨y, v', fp', h1, h2, h3, h4, _⟩ := S.vals i' d' e2
        obtain ⟨y', q1, q2, q3⟩ := hk.caps i' (List.mem_of_getElem? hc)
        rw [h1] at q1; cases q1
        refine ⟨y, v', fp', ?_, ?_, h3.keeps kp, h4, fun _ _ _ q => (nomatch q), nope⟩
        · show (x :: caps.map (fun i => (c.names[i]?).getD ""))[j + 1]? = some y
          simp [hc, h1]
        · rcases h2 with ⟨h2, _⟩ | ⟨_, cc, h5, h6⟩
          · rw [q2] at h2; cases h2
          · refine .inr ⟨.inl ?_, cc, closOf_lookup h5 (mem_of_lookup' q3), h6.keeps kp⟩
            show (relabel scope c.env).names.lookup y = some .cell
            rw [relabel_names ho.hk]
            exact relNames_free q2 q3
theorem comp_quiet {elt' : Expr} {ifs : List Expr} {scope : Scope} {x : Str} {caps : List Nat} {cond : PC} {elt : PE} (hk : CompOk c scope x caps) (ho : EnvOk c)
    (hcond : ∀ C, (ifs = [] ∧ cond = .tt) ∨ ∃ t, ifs = [t] ∧ SoundC prog w m Φ (compCE c scope x caps C) cond t) (helt : ∀ C, SoundE prog w m Φ (compCE c scope x caps C) elt elt')
    {σ : Store} {s s₂ : Shared} {I : Addr} {items : List PyData} {fpw fps : List Addr} {P : Nat → Value → Prop} {St : Nat → Heap → Prop} {cl : Bool} {rs : List PyData} (S : SatE m c σ s)
    (it : ItOk prog w c s s₂ I items fpw fps P St cl)
    (hcd : compD (fun d => denC Φ cond (some d :: caps.map σ.get)) (fun d => denE Φ elt (some d :: caps.map σ.get)) items = some rs) :
    QuietOnC prog w c.A c.env scope (closOf c.env.cells scope.names []) x ifs elt' [I] P (compP s₂.heap fun d => denC Φ cond (some d :: caps.map σ.get)) (CompF s₂.heap fun d => denE Φ elt (some d :: caps.map σ.get)) s₂ where
  tests := fun C j v s₃ m₃ E' _ hv hn hm hkeep _ => by
    have hj := it.lt j v hv
    obtain ⟨fp, r, sub⟩ := it.item j v hv items[j] (by simp [hj])
    have u : ∀ a ∈ fp, c.U a := fun a ha => it.u a (sub a ha)
    have hI : I ∉ fp := fun q => it.off (sub I q)
    obtain ⟨hl, b, hb, _⟩ := compD_all hcd items[j] (List.getElem_mem hj)
    have kp : Keep s.heap s₃.heap := fun y o e => hkeep y o (fun q => by rw [List.mem_singleton.mp q, it.new] at e; cases e) (Keeps.keep it.kp y o e)
    have r₃ : Rd s₃.heap v items[j] fp := r.at fun z hz o e => hkeep z o (fun q => hI (List.mem_singleton.mp q ▸ hz)) e
    have S₃ := comp_sat hk ho S kp hn hm r₃ u
    have hpv := compP_eq (t := fun d => denC Φ cond (some d :: caps.map σ.get)) r hl hb
    rcases hcond C with ⟨rfl, rfl⟩ | ⟨t, rfl, hc⟩
    · rw [List.forIn_nil]
      refine wpAny_pure ⟨?_, Keeps.rfl' _⟩
      rw [hpv]; simp [dC_tt] at hb; exact hb.symm
    · rw [List.forIn_cons, if_pos rfl]
      refine wpAny_bind (wpAny_bind (hc _ b s₃ hb S₃ _ E' fun s₄ k4 => wpAny_pure ?_))
      show wpAny _ _ (forIn [] b _) _ _ _
      rw [List.forIn_nil]
      exact wpAny_pure ⟨hpv.symm, k4⟩
  elt := fun C j v s₃ m₃ E' _ hv hpv hn hm hkeep _ => by
    have hj := it.lt j v hv
    obtain ⟨fp, r, sub⟩ := it.item j v hv items[j] (by simp [hj])
    have u : ∀ a ∈ fp, c.U a := fun a ha => it.u a (sub a ha)
    have hI : I ∉ fp := fun q => it.off (sub I q)
    obtain ⟨hl, b, hb, hg⟩ := compD_all hcd items[j] (List.getElem_mem hj)
    have kp : Keep s.heap s₃.heap := fun y o e => hkeep y o (fun q => by rw [List.mem_singleton.mp q, it.new] at e; cases e) (Keeps.keep it.kp y o e)
    have r₃ : Rd s₃.heap v items[j] fp := r.at fun z hz o e => hkeep z o (fun q => hI (List.mem_singleton.mp q ▸ hz)) e
    have S₃ := comp_sat hk ho S kp hn hm r₃ u
    have hpv' := compP_eq (t := fun d => denC Φ cond (some d :: caps.map σ.get)) r hl hb
    rw [hpv'] at hpv
    obtain ⟨k, hk'⟩ := hg hpv
    refine helt C _ _ s₃ hk' S₃ _ E' fun y s₄ fq o => ?_
    have ro := o.rd
    cases ro with | int _ tk => ?_
    exact ⟨⟨items[j], fp, k, tk, r, hl, hk', rfl⟩, o.kp⟩
theorem e_comp {elt' iter : Expr} {ifs : List Expr} {scope : Scope} {x : Str} {px : Pos} {caps : List Nat} {rng : Bool} {src : PE} {cond : PC} {elt : PE} (hh : c.A.handled = none) (hk : CompOk c scope x caps) (ho : EnvOk c)
    (hset : ∀ v, foldedSetIterable iter c.env v = pure v) (hs : SrcOk prog w m Φ c rng src iter)
    (hcond : ∀ C, (ifs = [] ∧ cond = .tt) ∨ ∃ t, ifs = [t] ∧ SoundC prog w m Φ (compCE c scope x caps C) cond t) (helt : ∀ C, SoundE prog w m Φ (compCE c scope x caps C) elt elt') :
    SoundE prog w m Φ c (.comp x caps rng src cond elt) (.ListComp elt' [⟨.Name x px, iter, ifs, 0⟩] scope pos) := fun σ d s hd S Q E h => by
  simp only [den_comp, Option.bind_eq_some_iff, Option.map_eq_some_iff] at hd
  obtain ⟨y, hy, items, hi, rs, hcd, rfl⟩ := hd
  rw [eval_ListComp]
  refine wpAny_comprehension_free (use := none) rfl hset (closureFor_eq hk.free) hk.hk hk.names (iter_any hh hs hy hi S fun I s₂ fpw fps P St it S₂ => ?_)
  refine comp_block_walkC (RR := fun acc C => compPost (model prog w) c.A E none Q acc C) it.wk (Nat.le_trans it.len lim_le) _ _ hk.cell hk.hk hk.hx it.st (fun b hb => by
    rcases it.sub b hb with rfl | q
    · obtain ⟨o, _, e, _⟩ := it.flds 0 _ it.st; exact Heap.lt_size e
    · obtain ⟨o, e⟩ := it.dom b q; exact Heap.lt_size e) (comp_quiet hk ho hcond helt S it hcd) ?_
  intro D C h' tk m' ys vs hD hC hDC hn hl hpl hlen hP hF hkeep
  have hIne : ∀ b o, s.heap.get? b = some o → b ∉ [I] := fun b o e q => by rw [List.mem_singleton.mp q, it.new] at e; cases e
  refine ⟨m', hn, fun h'' hs'' => ?_⟩
  have kp : Keep s.heap h'' := fun b o e => hs''.extBut b o (by rintro rfl; have := Keeps.keep it.kp _ _ e; rw [hC] at this; cases this) (hkeep b o (hIne b o e) (Keeps.keep it.kp b o e))
  have hr : Rds h'' ys.toList rs [] := comp_pair (h := s₂.heap) hlen (fun j v d e1 e2 => let ⟨fp, r, _⟩ := it.item j v (hP j v e1) d e2; ⟨fp, r⟩) hcd hF
  have hpD : PlainL h'' D (List.toArray ys.toList) := by
    obtain ⟨n, e⟩ := hpl.extBut hs''.extBut hDC
    exact ⟨_, n, e, rfl, rfl, by simp⟩
  have hDs : s.heap.get? D = none := none_of_keep (Keeps.keep it.kp) hD
  have hw := S.fresh _ hDs
  obtain ⟨h2, tk2, e2, _⟩ := it.kp
  subst e2
  refine h _ _ [D] ⟨⟨h'', tk, rfl, kp⟩, .list hpD hr, ?_, ?_, fun _ _ q => (nomatch q), fun _ => ⟨D, [], rfl, rfl, hDs, fun q => (nomatch q)⟩⟩
  · intro z hz; rw [List.mem_singleton.mp hz]; exact hw.1
  · intro _ z hz; rw [List.mem_singleton.mp hz]; exact hw.2
end
end Mine

namespace Mine
open PySem PyProof.Rows
set_option autoImplicit false
set_option maxRecDepth 10000
structure Cx where
  A : Around
  env : Env
  names : List Str
  own : List Nat
  h0 : Heap
  args : List Addr
noncomputable def Cx.fixed (c : Cx) : List Addr := c.env.locals :: c.env.cells.map (·.2)
noncomputable def Cx.U (c : Cx) (a : Addr) : Prop := a ∉ c.fixed ∧ (c.h0.get? a = none ∨ a ∈ c.args)
noncomputable def Cx.ce (c : Cx) (W : List Addr) : CE := { A := c.A, env := c.env, names := c.names, own := c.own, U := c.U, W := W }
structure CxOk (m : Mod) (n : Nat) (c : Cx) : Prop where
  md : m.In c.h0
  A : AOk n c.A
  hk : c.env.scope.kind = .function
  hg : c.env.globals = mainGlobals
  hb : c.env.builtins = builtinsNs
  nd : c.names.Nodup
  kind : ∀ x ∈ c.names, c.env.kindOf x = some .local ∨ (c.env.kindOf x = some .cell ∧ (c.env.cells.lookup x).isSome = true)
  apart : c.env.cells.Pairwise fun x y => x.2 ≠ y.2
  off : ∀ p ∈ c.env.cells, p.2 ≠ c.env.locals
  new : ∀ a ∈ c.fixed, c.h0.get? a = none
theorem CxOk.envOk {m : Mod} {n : Nat} {c : Cx} (k : CxOk m n c) (W : List Addr) : EnvOk (c.ce W) := ⟨k.hk, k.hg, k.hb⟩
structure Sat (m : Mod) (c : Cx) (σ : Store) (W : List Addr) (s : Shared) : Prop where
  len : σ.length = c.names.length
  e : SatE m (c.ce W) σ s
  ns : ∃ ml, s.heap.Ns c.env.locals ml
  cell : ∀ p ∈ c.env.cells, ∃ v, s.heap.IsCell p.2 v
  keep : Keep c.h0 s.heap
  w : ∀ a ∈ W, c.h0.get? a = none ∧ a ∉ c.fixed ∧ ∃ o, s.heap.get? a = some o
  sep : ∀ i ∈ c.own, ∀ j ∈ c.own, i ≠ j → ∀ d d', σ.get i = some d → σ.get j = some d' → ∀ x y a, c.names[i]? = some x → c.names[j]? = some y → VarAt c.env s.heap x (.ref a) → VarAt c.env s.heap y (.ref a) → False
structure Step (c : Cx) (W : List Addr) (s s' : Shared) (W' : List Addr) : Prop where
  same : ∃ h tk, s' = { s with heap := h, toks := tk }
  keep : ∀ b o, b ∉ c.fixed → b ∉ W → s.heap.get? b = some o → s'.heap.get? b = some o
  grow : ∀ a ∈ W', a ∈ W ∨ s.heap.get? a = none
  fix : ∀ b ∈ c.fixed, ∃ o, s'.heap.get? b = some o
theorem ns_unique {h : Heap} {a : Addr} {m m' : Str → Option Value} (x : h.Ns a m) (y : h.Ns a m') : m = m' := by
  obtain ⟨o, es, ep, e, d, _, f⟩ := x
  obtain ⟨o', es', ep', e', d', _, f'⟩ := y
  rw [e] at e'; cases e'
  rw [d] at d'; cases d'
  funext z; rw [← f z, ← f' z]
theorem cell_unique {h : Heap} {a : Addr} {v v' : Option Value} (x : h.IsCell a v) (y : h.IsCell a v') : v = v' := by
  obtain ⟨o, e, d⟩ := x
  obtain ⟨o', e', d'⟩ := y
  rw [e] at e'; cases e'
  rw [d] at d'; cases d'; rfl
theorem VarAt.unique {env : Env} {h : Heap} {x : Str} {v v' : Value} (a : VarAt env h x v) (b : VarAt env h x v') : v = v' := by
  rcases a with ⟨h1, m, h2, h3⟩ | ⟨h1, c, h2, h3⟩
  · rcases b with ⟨k1, m', k2, k3⟩ | ⟨k1, c', k2, k3⟩
    · rw [ns_unique h2 k2] at h3; rw [h3] at k3; exact Option.some.inj k3
    · rw [h1] at k1; rcases k1 with k1 | k1 <;> cases k1
  · rcases b with ⟨k1, m', k2, k3⟩ | ⟨k1, c', k2, k3⟩
    · rw [k1] at h1; rcases h1 with h1 | h1 <;> cases h1
    · rw [h2] at k2; cases k2; exact Option.some.inj (cell_unique h3 k3)
theorem Sat.fix {m : Mod} {c : Cx} {σ : Store} {W : List Addr} {s : Shared} (S : Sat m c σ W s) : ∀ b ∈ c.fixed, ∃ o, s.heap.get? b = some o := by
  intro b hb
  rcases List.mem_cons.mp hb with rfl | hb
  · obtain ⟨_, o, _, _, e, _⟩ := S.ns; exact ⟨o, e⟩
  · obtain ⟨p, hp, rfl⟩ := List.mem_map.mp hb
    obtain ⟨_, o, e, _⟩ := S.cell p hp; exact ⟨o, e⟩
theorem Sat.mono {m : Mod} {c : Cx} {σ : Store} {W : List Addr} {s s' : Shared} (S : Sat m c σ W s) (k : Keeps s s') : Sat m c σ W s' where
  len := S.len
  e := S.e.mono (Keeps.keep k)
  ns := let ⟨ml, h⟩ := S.ns; ⟨ml, h.keeps (Keeps.keep k)⟩
  cell := fun p hp => let ⟨v, h⟩ := S.cell p hp; ⟨v, h.keeps (Keeps.keep k)⟩
  keep := fun b o e => Keeps.keep k b o (S.keep b o e)
  w := fun a ha => let ⟨h1, h2, o, h3⟩ := S.w a ha; ⟨h1, h2, o, Keeps.keep k _ _ h3⟩
  sep := fun i hi j hj hij d d' e1 e2 x y a hx hy V1 V2 => by
    obtain ⟨x', v1, _, p1, q1, _⟩ := S.e.vals i d e1
    obtain ⟨y', v2, _, p2, q2, _⟩ := S.e.vals j d' e2
    have p1' : c.names[i]? = some x' := p1
    have p2' : c.names[j]? = some y' := p2
    rw [hx] at p1'; cases p1'
    rw [hy] at p2'; cases p2'
    have r1 := VarAt.unique V1 (VarAt.keeps (env := c.env) q1 (Keeps.keep k))
    have r2 := VarAt.unique V2 (VarAt.keeps (env := c.env) q2 (Keeps.keep k))
    subst r1 r2
    exact S.sep i hi j hj hij d d' e1 e2 x y a hx hy q1 q2
theorem Step.rfl' {m : Mod} {c : Cx} {σ : Store} {W : List Addr} {s : Shared} (S : Sat m c σ W s) : Step c W s s W := ⟨⟨_, _, rfl⟩, fun _ _ _ _ e => e, fun _ h => .inl h, S.fix⟩
theorem Step.of_keeps {m : Mod} {c : Cx} {σ : Store} {W : List Addr} {s s' : Shared} (S : Sat m c σ W s) (k : Keeps s s') : Step c W s s' W :=
  ⟨by obtain ⟨h, tk, e, _⟩ := k; exact ⟨h, tk, e⟩, fun b o _ _ e => Keeps.keep k b o e, fun _ h => .inl h, fun b hb => let ⟨o, e⟩ := S.fix b hb; ⟨o, Keeps.keep k _ _ e⟩⟩
theorem Step.trans {c : Cx} {W W' W'' : List Addr} {s s' s'' : Shared} (a : Step c W s s' W') (b : Step c W' s' s'' W'') : Step c W s s'' W'' where
  same := by
    obtain ⟨h, tk, rfl⟩ := a.same
    obtain ⟨h', tk', rfl⟩ := b.same
    exact ⟨h', tk', rfl⟩
  keep := fun x o h1 h2 e => b.keep x o h1 (fun q => (a.grow x q).elim h2 fun z => by rw [z] at e; cases e) (a.keep x o h1 h2 e)
  grow := fun x hx => by
    rcases b.grow x hx with q | q
    · exact a.grow x q
    · cases e : s.heap.get? x with
      | none => exact .inr rfl
      | some o =>
        refine .inl (Classical.byContradiction fun hw => ?_)
        by_cases hf : x ∈ c.fixed
        · obtain ⟨o', e'⟩ := a.fix x hf; rw [q] at e'; cases e'
        · have := a.keep x o hf hw e; rw [q] at this; cases this
  fix := b.fix
section
variable {prog : Program} {w : World} {m : Mod} {c : Cx} {n : Nat}
structure FrameAt (c : Cx) (h : Heap) : Prop where
  ns : ∃ ml, h.Ns c.env.locals ml
  cell : ∀ p ∈ c.env.cells, ∃ v, h.IsCell p.2 v
theorem store_var (k : CxOk m n c) {s : Shared} (S : FrameAt c s.heap) {x : Str} (hx : x ∈ c.names) {v : Value} {A : Around} {E : Value → Shared → Prop} {Q : Unit → Shared → Prop}
    (h : ∀ h' tk, VarAt c.env h' x v → (∀ y u, y ∈ c.names → y ≠ x → (VarAt c.env h' y u ↔ VarAt c.env s.heap y u)) → (∃ ml, h'.Ns c.env.locals ml) → (∀ p ∈ c.env.cells, ∃ v, h'.IsCell p.2 v) →
      (∀ b o, b ∉ c.fixed → s.heap.get? b = some o → h'.get? b = some o) → (∀ b, b ∉ c.fixed → s.heap.get? b = none → h'.get? b = none) → Q () { s with heap := h', toks := tk }) :
    wpAny (model prog w) A (storeName c.env x v) Q E s := by
  have hL : c.env.locals ∈ c.fixed := .head _
  have hC : ∀ {y : Str} {a : Addr}, c.env.cells.lookup y = some a → (y, a) ∈ c.env.cells := fun e => mem_of_lookup' e
  have hCf : ∀ p ∈ c.env.cells, p.2 ∈ c.fixed := fun p hp => .tail _ (List.mem_map.mpr ⟨p, hp, rfl⟩)
  rcases k.kind x hx with hl | ⟨hl, hs⟩
  · obtain ⟨ml, hns⟩ := S.ns
    refine wpAny_storeName_local hl hns (fun h' hn hsb => ?_) (by rw [k.hk]; rfl)
    refine h h' _ (.inl ⟨hl, _, hn, by simp⟩) (fun y u hy hyx => ?_) ⟨_, hn⟩ (fun p hp => ?_) (fun b o hb e => hsb.extBut b o (fun q => hb (q ▸ hL)) e) (fun b hb e => ?_)
    · constructor
      · rintro (⟨h1, m', h2, h3⟩ | ⟨h1, a, h2, h3⟩)
        · have := ns_unique hn h2
          subst this
          exact .inl ⟨h1, ml, hns, by simpa [hyx] using h3⟩
        · refine .inr ⟨h1, a, h2, ?_⟩
          obtain ⟨v', hv'⟩ := S.cell (y, a) (hC h2)
          have := cell_unique h3 (hv'.sameBut hsb (k.off (y, a) (hC h2)))
          rw [this]; exact hv'
      · rintro (⟨h1, m', h2, h3⟩ | ⟨h1, a, h2, h3⟩)
        · have := ns_unique hns h2
          subst this
          exact .inl ⟨h1, _, hn, by simpa [hyx] using h3⟩
        · exact .inr ⟨h1, a, h2, h3.sameBut hsb (k.off (y, a) (hC h2))⟩
    · obtain ⟨v', hv'⟩ := S.cell p hp
      exact ⟨v', hv'.sameBut hsb (k.off p hp)⟩
    · exact (hsb.2 b (fun q => hb (q ▸ hL))).trans e
  · obtain ⟨a, ha⟩ := Option.isSome_iff_exists.mp hs
    obtain ⟨v₀, hv₀⟩ := S.cell (x, a) (hC ha)
    have haL : a ≠ c.env.locals := k.off (x, a) (hC ha)
    have haf : a ∈ c.fixed := hCf (x, a) (hC ha)
    refine wpAny_storeName_cell k.hk hl ha hv₀ fun h' hc' hsb => ?_
    obtain ⟨ml, hns⟩ := S.ns
    have hns' : h'.Ns c.env.locals ml := hns.sameBut hsb (Ne.symm haL)
    have ne_of : ∀ {y : Str} {b : Addr}, y ≠ x → c.env.cells.lookup y = some b → b ≠ a := fun {y b} hyx e q => by
      subst q
      exact hyx (name_of_addr k.apart (hC e) (hC ha))
    refine h h' s.toks (.inr ⟨.inl hl, a, ha, hc'⟩) (fun y u hy hyx => ?_) ⟨ml, hns'⟩ (fun p hp => ?_) (fun b o hb e => hsb.extBut b o (fun q => hb (q ▸ haf)) e) (fun b hb e => (hsb.2 b (fun q => hb (q ▸ haf))).trans e)
    · constructor
      · rintro (⟨h1, m', h2, h3⟩ | ⟨h1, b, h2, h3⟩)
        · have := ns_unique hns' h2
          subst this
          exact .inl ⟨h1, ml, hns, h3⟩
        · refine .inr ⟨h1, b, h2, ?_⟩
          obtain ⟨v', hv'⟩ := S.cell (y, b) (hC h2)
          have := cell_unique h3 (hv'.sameBut hsb (ne_of hyx h2))
          rw [this]; exact hv'
      · rintro (⟨h1, m', h2, h3⟩ | ⟨h1, b, h2, h3⟩)
        · have := ns_unique hns h2
          subst this
          exact .inl ⟨h1, ml, hns', h3⟩
        · exact .inr ⟨h1, b, h2, h3.sameBut hsb (ne_of hyx h2)⟩
    · by_cases hpa : p.2 = a
      · rw [hpa]; exact ⟨_, hc'⟩
      · obtain ⟨v', hv'⟩ := S.cell p hp
        exact ⟨v', hv'.sameBut hsb hpa⟩
theorem get_set (σ : Store) (i j : Nat) (d : Option PyData) : Store.get (List.set σ i d) j = if i = j ∧ i < σ.length then d else Store.get σ j := by
  unfold Store.get
  rw [List.getElem?_set]
  by_cases h : i = j
  · subst h
    by_cases h2 : i < σ.length
    · simp [h2]
    · simp [h2]
  · simp [h]
theorem nodup_inj {l : List Str} (nd : l.Nodup) : ∀ {i j : Nat} {x : Str}, l[i]? = some x → l[j]? = some x → i = j := by
  induction l with
  | nil => intro i j x h; simp at h
  | cons y l ih =>
    rw [List.nodup_cons] at nd
    intro i j x h1 h2
    cases i with
    | zero =>
      cases j with
      | zero => rfl
      | succ j => simp at h1 h2; subst h1; exact absurd (List.mem_of_getElem? h2) nd.1
    | succ i =>
      cases j with
      | zero => simp at h1 h2; subst h2; exact absurd (List.mem_of_getElem? h1) nd.1
      | succ j => exact congrArg (· + 1) (ih nd.2 (x := x) (by simpa using h1) (by simpa using h2))
structure Stored (c : Cx) (s : Shared) (x : Str) (v : Value) (h' : Heap) : Prop where
  V : VarAt c.env h' x v
  oth : ∀ y u, y ∈ c.names → y ≠ x → VarAt c.env s.heap y u → VarAt c.env h' y u
  ns : ∃ ml, h'.Ns c.env.locals ml
  cell : ∀ p ∈ c.env.cells, ∃ v, h'.IsCell p.2 v
  kp : ∀ b o, b ∉ c.fixed → s.heap.get? b = some o → h'.get? b = some o
theorem store_var' (k : CxOk m n c) {σ : Store} {W : List Addr} {s s₁ : Shared} (S : Sat m c σ W s) (kk : Keeps s s₁) {x : Str} (hx : x ∈ c.names) {v : Value} {A : Around} {E : Value → Shared → Prop} {Q : Unit → Shared → Prop}
    (h : ∀ h' tk, Stored c s x v h' → (∀ b o, b ∉ c.fixed → s₁.heap.get? b = some o → h'.get? b = some o) → Q () { s₁ with heap := h', toks := tk }) : wpAny (model prog w) A (storeName c.env x v) Q E s₁ :=
  store_var k ⟨(S.mono kk).ns, (S.mono kk).cell⟩ hx fun h' tk a1 a2 a3 a4 a5 _ => h h' tk ⟨a1, fun y u hy hyx V => (a2 y u hy hyx).mpr (VarAt.keeps V (Keeps.keep kk)), a3, a4, fun b o hb e => a5 b o hb (Keeps.keep kk b o e)⟩ a5
inductive OtherAt (c : Cx) (W : List Addr) (s : Shared) (h' : Heap) (j : Nat) (d : PyData) : Prop
  | mk (y : Str) (u : Value) (fp : List Addr) (h1 : c.names[j]? = some y) (h2 : VarAt c.env h' y u) (h3 : VarAt c.env s.heap y u) (h4 : Rd h' u d fp) (h5 : ∀ a ∈ fp, ∃ o, s.heap.get? a = some o) (h6 : ∀ a ∈ fp, c.U a) (h7 : j ∉ c.own → ∀ a ∈ fp, a ∉ W) (h8 : j ∈ c.own → OwnAt W u fp) : OtherAt c W s h' j d
theorem Sat.other {σ : Store} {W : List Addr} {s : Shared} (S : Sat m c σ W s) (k : CxOk m n c) {i j : Nat} {x : Str} (hi : c.names[i]? = some x) (hj : i ≠ j) {v : Value} {h' : Heap} (st : Stored c s x v h') {d : PyData} (e : σ.get j = some d) :
    OtherAt c W s h' j d := by
  obtain ⟨y, u, fp, h1, h2, h3, h4, h5, h6⟩ := S.e.vals j d e
  have h1' : c.names[j]? = some y := h1
  have hyx : y ≠ x := fun q => by subst q; exact hj (nodup_inj k.nd hi h1')
  refine ⟨y, u, fp, h1', st.oth y u (List.mem_of_getElem? h1') hyx h2, h2, h3.at fun a ha o q => st.kp a o (h4 a ha).1 q, h3.dom, h4, h5, h6⟩
theorem Sat.assign (k : CxOk m n c) {σ : Store} {W : List Addr} {s s₁ : Shared} (S : Sat m c σ W s) (sm : ∃ h tk, s₁ = { s with heap := h, toks := tk }) {i : Nat} {x : Str} (hi : c.names[i]? = some x) {v : Value} {d : PyData} {fp : List Addr} {h' : Heap} {tk : Nat} (r : Rd h' v d fp) (u : ∀ a ∈ fp, c.U a)
    (st : Stored c s x v h') (hno : i ∉ c.own) (hcl : ∀ a ∈ fp, a ∉ W) :
    Sat m c (σ.set i (some d)) W { s₁ with heap := h', toks := tk } ∧ Step c W s { s₁ with heap := h', toks := tk } W := by
  have hnew : Keep c.h0 h' := fun b o e => st.kp b o (fun q => by rw [k.new b q] at e; cases e) (S.keep b o e)
  have fixed' : ∀ b ∈ c.fixed, ∃ o, h'.get? b = some o := by
    intro b hb
    rcases List.mem_cons.mp hb with rfl | hb
    · obtain ⟨_, o, _, _, e, _⟩ := st.ns; exact ⟨o, e⟩
    · obtain ⟨p, hp, rfl⟩ := List.mem_map.mp hb
      obtain ⟨_, o, e, _⟩ := st.cell p hp; exact ⟨o, e⟩
  have fr : ∀ a, h'.get? a = none → s.heap.get? a = none := fun a e => by
    cases q : s.heap.get? a with
    | none => rfl
    | some o =>
      by_cases hf : a ∈ c.fixed
      · obtain ⟨o', e'⟩ := fixed' a hf; rw [e] at e'; cases e'
      · have := st.kp a o hf q; rw [e] at this; cases this
  refine ⟨⟨by rw [List.length_set]; exact S.len, ⟨k.md.keeps hnew, fun a e => S.e.fresh a (fr a e), fun j d' e => ?_⟩, st.ns, st.cell, hnew, fun a ha => ?_, ?_⟩, ⟨?_, fun b o h1 h2 e => st.kp b o h1 e, fun _ h => .inl h, fixed'⟩⟩
  · rw [get_set] at e
    by_cases hj : i = j
    · subst hj
      split at e
      · cases e
        exact ⟨x, v, fp, hi, st.V, r, u, fun _ => hcl, fun q => absurd q hno⟩
      · exfalso
        unfold Store.get at e
        rw [List.getElem?_eq_none (by lia)] at e; cases e
    · rw [if_neg (fun q => hj q.1)] at e
      obtain ⟨y, v', fp', h1, h2, _, h3, _, h5, h6, h7⟩ := S.other k hi hj st e
      exact ⟨y, v', fp', h1, h2, h3, h5, h6, h7⟩
  · obtain ⟨h1, h2, o, h3⟩ := S.w a ha
    exact ⟨h1, h2, o, st.kp a o h2 h3⟩
  · intro p hp q hq hpq d1 d2 e1 e2 y z a hy hz V1 V2
    have hpi : i ≠ p := fun e => hno (e ▸ hp)
    have hqi : i ≠ q := fun e => hno (e ▸ hq)
    rw [get_set, if_neg (fun z => hpi z.1)] at e1
    rw [get_set, if_neg (fun z => hqi z.1)] at e2
    obtain ⟨y', v1, _, n1, w1, w1', _⟩ := S.other k hi hpi st e1
    obtain ⟨z', v2, _, n2, w2, w2', _⟩ := S.other k hi hqi st e2
    rw [hy] at n1; cases n1
    rw [hz] at n2; cases n2
    have r1 := VarAt.unique V1 w1
    have r2 := VarAt.unique V2 w2
    subst r1 r2
    exact S.sep p hp q hq hpq d1 d2 e1 e2 y z a hy hz w1' w2'
  · obtain ⟨h1, t1, rfl⟩ := sm; exact ⟨h', tk, rfl⟩
theorem Sat.assignOwn (k : CxOk m n c) {σ : Store} {W : List Addr} {s s₁ : Shared} (S : Sat m c σ W s) (sm : ∃ h tk, s₁ = { s with heap := h, toks := tk }) {i : Nat} {x : Str} (hi : c.names[i]? = some x) {b : Addr} {d : PyData} {as : List Addr} {h' : Heap} {tk : Nat} (r' : Rd h' (.ref b) d (b :: as)) (u : ∀ a ∈ b :: as, c.U a)
    (st : Stored c s x (.ref b) h') (hown : i ∈ c.own) (hb : s.heap.get? b = none) (hcl : ∀ a ∈ as, a ∉ W) (hba : b ∉ as) :
    Sat m c (σ.set i (some d)) (b :: W) { s₁ with heap := h', toks := tk } ∧ Step c W s { s₁ with heap := h', toks := tk } (b :: W) := by
  have hnew : Keep c.h0 h' := fun b o e => st.kp b o (fun q => by rw [k.new b q] at e; cases e) (S.keep b o e)
  have fixed' : ∀ b ∈ c.fixed, ∃ o, h'.get? b = some o := by
    intro b hb
    rcases List.mem_cons.mp hb with rfl | hb
    · obtain ⟨_, o, _, _, e, _⟩ := st.ns; exact ⟨o, e⟩
    · obtain ⟨p, hp, rfl⟩ := List.mem_map.mp hb
      obtain ⟨_, o, e, _⟩ := st.cell p hp; exact ⟨o, e⟩
  have fr : ∀ a, h'.get? a = none → s.heap.get? a = none ∧ a ≠ b := fun a e => by
    have h1 : s.heap.get? a = none := by
      cases q : s.heap.get? a with
      | none => rfl
      | some o =>
        by_cases hf : a ∈ c.fixed
        · obtain ⟨o', e'⟩ := fixed' a hf; rw [e] at e'; cases e'
        · have := st.kp a o hf q; rw [e] at this; cases this
    refine ⟨h1, fun q => ?_⟩
    subst q
    obtain ⟨o, eo⟩ := r'.dom a (.head _)
    rw [e] at eo; cases eo
  refine ⟨⟨by rw [List.length_set]; exact S.len, ⟨k.md.keeps hnew, fun a e => ?_, fun j d' e => ?_⟩, st.ns, st.cell, hnew, fun a ha => ?_, ?_⟩, ⟨?_, fun b o h1 h2 e => st.kp b o h1 e, fun a h => ?_, fixed'⟩⟩
  · obtain ⟨f1, f2⟩ := fr a e
    exact ⟨(S.e.fresh a f1).1, fun q => (List.mem_cons.mp q).elim f2 (S.e.fresh a f1).2⟩
  · rw [get_set] at e
    by_cases hj : i = j
    · subst hj
      split at e
      · cases e
        refine ⟨x, _, _, hi, st.V, r', u, fun q => absurd hown q, fun _ => ⟨b, as, rfl, rfl, .head _, fun z hz q => ?_⟩⟩
        rcases List.mem_cons.mp q with rfl | q
        · exact hba hz
        · exact hcl z hz q
      · exfalso
        unfold Store.get at e
        rw [List.getElem?_eq_none (by lia)] at e; cases e
    · rw [if_neg (fun q => hj q.1)] at e
      obtain ⟨y, v', fp', h1, h2, _, h3, hdom, h5, h6, h7⟩ := S.other k hi hj st e
      have hbf : b ∉ fp' := fun q => by obtain ⟨o, eo⟩ := hdom b q; rw [hb] at eo; cases eo
      refine ⟨y, v', fp', h1, h2, h3, h5, fun q z hz w => ?_, fun q => ?_⟩
      · rcases List.mem_cons.mp w with rfl | w
        · exact hbf hz
        · exact h6 q z hz w
      · obtain ⟨a, as', p1, p2, p3, p4⟩ := h7 q
        refine ⟨a, as', p1, p2, .tail _ p3, fun z hz w => ?_⟩
        rcases List.mem_cons.mp w with rfl | w
        · exact hbf (p2 ▸ .tail _ hz)
        · exact p4 z hz w
  · rcases List.mem_cons.mp ha with rfl | ha
    · refine ⟨none_of_keep S.keep hb, (u _ (.head _)).1, ?_⟩
      exact r'.dom _ (.head _)
    · obtain ⟨h1, h2, o, h3⟩ := S.w a ha
      exact ⟨h1, h2, o, st.kp a o h2 h3⟩
  · intro p hp q hq hpq d1 d2 e1 e2 y z a hy hz V1 V2
    have key : ∀ (p : Nat) (d1 : PyData) (y : Str), p ∈ c.own → i ≠ p → Store.get (σ.set i (some d)) p = some d1 → c.names[p]? = some y → VarAt c.env h' y (.ref a) → a ≠ b ∧ VarAt c.env s.heap y (.ref a) ∧ σ.get p = some d1 := by
      intro p d1 y hp hpi e1 hy V1
      rw [get_set, if_neg (fun z => hpi z.1)] at e1
      obtain ⟨y', v1, fp1, n1, w1, w1', _, hdom, _, _, h7⟩ := S.other k hi hpi st e1
      rw [hy] at n1; cases n1
      have r1 := VarAt.unique V1 w1
      subst r1
      obtain ⟨a', as', p1, p2, _⟩ := h7 hp
      cases p1
      refine ⟨fun q => ?_, w1', e1⟩
      subst q
      obtain ⟨o, eo⟩ := hdom a (p2 ▸ .head _)
      rw [hb] at eo; cases eo
    have self : ∀ (y : Str), c.names[i]? = some y → VarAt c.env h' y (.ref a) → a = b := fun y hy V => by
      rw [hi] at hy; cases hy
      have := VarAt.unique V st.V
      cases this; rfl
    by_cases hpi : i = p
    · subst hpi
      have := self y hy V1
      exact (key q d2 z hq hpq e2 hz V2).1 this
    · by_cases hqi : i = q
      · subst hqi
        have := self z hz V2
        exact (key p d1 y hp hpi e1 hy V1).1 this
      · obtain ⟨_, w1, f1⟩ := key p d1 y hp hpi e1 hy V1
        obtain ⟨_, w2, f2⟩ := key q d2 z hq hqi e2 hz V2
        exact S.sep p hp q hq hpq d1 d2 f1 f2 y z a hy hz w1 w2
  · obtain ⟨h1, t1, rfl⟩ := sm; exact ⟨h', tk, rfl⟩
  · rcases List.mem_cons.mp h with rfl | h
    · exact .inr hb
    · exact .inl h
theorem Sat.addOwn (k : CxOk m n c) {σ : Store} {W : List Addr} {s s₁ : Shared} (S : Sat m c σ W s) (sm : ∃ h tk, s₁ = { s with heap := h, toks := tk }) {i : Nat} {x : Str} (hi : c.names[i]? = some x) {b : Addr} {d : PyData} {as : List Addr} {h' : Heap} {tk : Nat} (r' : Rd h' (.ref b) d (b :: as)) (u : ∀ a ∈ b :: as, c.U a)
    (st : Stored c s x (.ref b) h') (hno : i ∉ c.own) (hb : s.heap.get? b = none) (hcl : ∀ a ∈ as, a ∉ W) (hba : b ∉ as) :
    Sat m { c with own := i :: c.own } (σ.set i (some d)) (b :: W) { s₁ with heap := h', toks := tk } ∧ Step c W s { s₁ with heap := h', toks := tk } (b :: W) := by
  have hnew : Keep c.h0 h' := fun b o e => st.kp b o (fun q => by rw [k.new b q] at e; cases e) (S.keep b o e)
  have fixed' : ∀ b ∈ c.fixed, ∃ o, h'.get? b = some o := by
    intro b hb
    rcases List.mem_cons.mp hb with rfl | hb
    · obtain ⟨_, o, _, _, e, _⟩ := st.ns; exact ⟨o, e⟩
    · obtain ⟨p, hp, rfl⟩ := List.mem_map.mp hb
      obtain ⟨_, o, e, _⟩ := st.cell p hp; exact ⟨o, e⟩
  have fr : ∀ a, h'.get? a = none → s.heap.get? a = none ∧ a ≠ b := fun a e => by
    have h1 : s.heap.get? a = none := by
      cases q : s.heap.get? a with
      | none => rfl
      | some o =>
        by_cases hf : a ∈ c.fixed
        · obtain ⟨o', e'⟩ := fixed' a hf; rw [e] at e'; cases e'
        · have := st.kp a o hf q; rw [e] at this; cases this
    refine ⟨h1, fun q => ?_⟩
    subst q
    obtain ⟨o, eo⟩ := r'.dom a (.head _)
    rw [e] at eo; cases eo
  refine ⟨⟨by rw [List.length_set]; exact S.len, ⟨k.md.keeps hnew, fun a e => ?_, fun j d' e => ?_⟩, st.ns, st.cell, hnew, fun a ha => ?_, ?_⟩, ⟨?_, fun b o h1 h2 e => st.kp b o h1 e, fun a h => ?_, fixed'⟩⟩
  · obtain ⟨f1, f2⟩ := fr a e
    exact ⟨(S.e.fresh a f1).1, fun q => (List.mem_cons.mp q).elim f2 (S.e.fresh a f1).2⟩
  · rw [get_set] at e
    by_cases hj : i = j
    · subst hj
      split at e
      · cases e
        refine ⟨x, _, _, hi, st.V, r', u, fun q => absurd (.head _) q, fun _ => ⟨b, as, rfl, rfl, .head _, fun z hz q => ?_⟩⟩
        rcases List.mem_cons.mp q with rfl | q
        · exact hba hz
        · exact hcl z hz q
      · exfalso
        unfold Store.get at e
        rw [List.getElem?_eq_none (by lia)] at e; cases e
    · rw [if_neg (fun q => hj q.1)] at e
      obtain ⟨y, v', fp', h1, h2, _, h3, hdom, h5, h6, h7⟩ := S.other k hi hj st e
      have hbf : b ∉ fp' := fun q => by obtain ⟨o, eo⟩ := hdom b q; rw [hb] at eo; cases eo
      refine ⟨y, v', fp', h1, h2, h3, h5, fun q z hz w => ?_, fun q => ?_⟩
      · rcases List.mem_cons.mp w with rfl | w
        · exact hbf hz
        · exact h6 (fun z => q (.tail _ z)) z hz w
      · obtain ⟨a, as', p1, p2, p3, p4⟩ := h7 ((List.mem_cons.mp q).resolve_left (fun z => hj z.symm))
        refine ⟨a, as', p1, p2, .tail _ p3, fun z hz w => ?_⟩
        rcases List.mem_cons.mp w with rfl | w
        · exact hbf (p2 ▸ .tail _ hz)
        · exact p4 z hz w
  · rcases List.mem_cons.mp ha with rfl | ha
    · refine ⟨none_of_keep S.keep hb, (u _ (.head _)).1, ?_⟩
      exact r'.dom _ (.head _)
    · obtain ⟨h1, h2, o, h3⟩ := S.w a ha
      exact ⟨h1, h2, o, st.kp a o h2 h3⟩
  · intro p hp q hq hpq d1 d2 e1 e2 y z a hy hz V1 V2
    have key : ∀ (p : Nat) (d1 : PyData) (y : Str), p ∈ i :: c.own → i ≠ p → Store.get (σ.set i (some d)) p = some d1 → c.names[p]? = some y → VarAt c.env h' y (.ref a) → a ≠ b ∧ VarAt c.env s.heap y (.ref a) ∧ σ.get p = some d1 := by
      intro p d1 y hp hpi e1 hy V1
      rw [get_set, if_neg (fun z => hpi z.1)] at e1
      obtain ⟨y', v1, fp1, n1, w1, w1', _, hdom, _, _, h7⟩ := S.other k hi hpi st e1
      rw [hy] at n1; cases n1
      have r1 := VarAt.unique V1 w1
      subst r1
      obtain ⟨a', as', p1, p2, _⟩ := h7 ((List.mem_cons.mp hp).resolve_left (fun z => hpi z.symm))
      cases p1
      refine ⟨fun q => ?_, w1', e1⟩
      subst q
      obtain ⟨o, eo⟩ := hdom a (p2 ▸ .head _)
      rw [hb] at eo; cases eo
    have self : ∀ (y : Str), c.names[i]? = some y → VarAt c.env h' y (.ref a) → a = b := fun y hy V => by
      rw [hi] at hy; cases hy
      have := VarAt.unique V st.V
      cases this; rfl
    by_cases hpi : i = p
    · subst hpi
      have := self y hy V1
      exact (key q d2 z hq hpq e2 hz V2).1 this
    · by_cases hqi : i = q
      · subst hqi
        have := self z hz V2
        exact (key p d1 y hp hpi e1 hy V1).1 this
      · obtain ⟨_, w1, f1⟩ := key p d1 y hp hpi e1 hy V1
        obtain ⟨_, w2, f2⟩ := key q d2 z hq hqi e2 hz V2
        exact S.sep p ((List.mem_cons.mp hp).resolve_left (fun z => hpi z.symm)) q ((List.mem_cons.mp hq).resolve_left (fun z => hqi z.symm)) hpq d1 d2 f1 f2 y z a hy hz w1 w2
  · obtain ⟨h1, t1, rfl⟩ := sm; exact ⟨h', tk, rfl⟩
  · rcases List.mem_cons.mp h with rfl | h
    · exact .inr hb
    · exact .inl h
theorem Sat.changed (k : CxOk m n c) {σ : Store} {W : List Addr} {s s₁ : Shared} (S : Sat m c σ W s) (kk : Keeps s s₁) {i : Nat} {x : Str} (hi : c.names[i]? = some x) (hown : i ∈ c.own) {b : Addr} {d₀ d : PyData} (e₀ : σ.get i = some d₀) (V : VarAt c.env s.heap x (.ref b))
    {h' : Heap} {tk : Nat} (sb : Heap.SameBut b s₁.heap h') {as : List Addr} (r : Rd h' (.ref b) d (b :: as)) (u : ∀ a ∈ as, c.U a) (hcl : ∀ a ∈ as, a ∉ W) :
    Sat m c (σ.set i (some d)) W { s₁ with heap := h', toks := tk } ∧ Step c W s { s₁ with heap := h', toks := tk } W := by
  obtain ⟨x', v, fp, q1, q2, q3, q4, _, q6⟩ := S.e.vals i d₀ e₀
  have q1' : c.names[i]? = some x' := q1
  rw [hi] at q1'; cases q1'
  have := VarAt.unique V q2
  subst this
  obtain ⟨b', as', z1, z2, hbW, _⟩ := q6 hown
  cases z1
  subst z2
  obtain ⟨hb0, hbf, _⟩ := S.w b hbW
  have hbu : c.U b := q4 b (.head _)
  have kp : ∀ a o, a ≠ b → s.heap.get? a = some o → h'.get? a = some o := fun a o h e => sb.extBut a o h (Keeps.keep kk a o e)
  have hnew : Keep c.h0 h' := fun a o e => kp a o (fun q => by subst q; rw [hb0] at e; cases e) (S.keep a o e)
  have vk : ∀ y u, VarAt c.env s.heap y u → VarAt c.env h' y u := by
    intro y u V
    rcases V with ⟨h1, ml, h2, h3⟩ | ⟨h1, a, h2, h3⟩
    · refine .inl ⟨h1, ml, ?_, h3⟩
      obtain ⟨o, es, ep, e, r⟩ := h2
      exact ⟨o, es, ep, kp _ o (fun q => hbf (q ▸ .head _)) e, r⟩
    · refine .inr ⟨h1, a, h2, ?_⟩
      obtain ⟨o, e, r⟩ := h3
      exact ⟨o, kp _ o (fun q => hbf (q ▸ .tail _ (List.mem_map.mpr ⟨(y, a), mem_of_lookup' h2, rfl⟩))) e, r⟩
  have fixed' : ∀ b ∈ c.fixed, ∃ o, h'.get? b = some o := fun a ha => let ⟨o, e⟩ := S.fix a ha; ⟨o, kp a o (fun q => hbf (q ▸ ha)) e⟩
  have fr : ∀ a, h'.get? a = none → s.heap.get? a = none := fun a e => by
    cases q : s.heap.get? a with
    | none => rfl
    | some o =>
      by_cases hab : a = b
      · subst hab
        obtain ⟨o', e'⟩ := r.dom a (.head _)
        rw [e] at e'; cases e'
      · have := kp a o hab q; rw [e] at this; cases this
  refine ⟨⟨by rw [List.length_set]; exact S.len, ⟨k.md.keeps hnew, fun a e => S.e.fresh a (fr a e), fun j d' e => ?_⟩, ?_, fun p hp => ?_, hnew, fun a ha => ?_, ?_⟩, ⟨?_, fun a o h1 h2 e => kp a o (fun q => h2 (q ▸ hbW)) e, fun _ h => .inl h, fixed'⟩⟩
  · rw [get_set] at e
    by_cases hj : i = j
    · subst hj
      split at e
      · cases e
        refine ⟨x, _, _, hi, vk _ _ V, r, ?_, fun q => absurd hown q, fun _ => ⟨b, as, rfl, rfl, hbW, hcl⟩⟩
        intro a ha
        rcases List.mem_cons.mp ha with rfl | ha
        · exact hbu
        · exact u a ha
      · exfalso
        unfold Store.get at e
        rw [List.getElem?_eq_none (by lia)] at e; cases e
    · rw [if_neg (fun q => hj q.1)] at e
      obtain ⟨y, v', fp', p1, p2, p3, p4, p5, p6⟩ := S.e.vals j d' e
      have hbn : b ∉ fp' := fun q => by
        by_cases ho : j ∈ c.own
        · obtain ⟨a, as'', w1, w2, w3, w4⟩ := p6 ho
          subst w1 w2
          rcases List.mem_cons.mp q with rfl | q
          · exact S.sep i hown j ho hj d₀ d' e₀ e x y b hi p1 V p2
          · exact w4 b q hbW
        · exact p5 ho b q hbW
      exact ⟨y, v', fp', p1, vk _ _ p2, p3.at fun a ha o z => kp a o (fun q => hbn (q ▸ ha)) z, p4, p5, p6⟩
  · obtain ⟨ml, o, es, ep, e, r⟩ := S.ns
    exact ⟨ml, o, es, ep, kp _ o (fun q => hbf (q ▸ .head _)) e, r⟩
  · obtain ⟨v, o, e, r⟩ := S.cell p hp
    exact ⟨v, o, kp _ o (fun q => hbf (q ▸ .tail _ (List.mem_map.mpr ⟨p, hp, rfl⟩))) e, r⟩
  · obtain ⟨h1, h2, o, h3⟩ := S.w a ha
    by_cases hab : a = b
    · subst hab; exact ⟨h1, h2, r.dom a (.head _)⟩
    · exact ⟨h1, h2, o, kp a o hab h3⟩
  · intro p hp q hq hpq d1 d2 e1 e2 y z a hy hz V1 V2
    have key : ∀ (p : Nat) (d1 : PyData) (y : Str), Store.get (σ.set i (some d)) p = some d1 → c.names[p]? = some y → VarAt c.env h' y (.ref a) → (∃ d', σ.get p = some d') ∧ VarAt c.env s.heap y (.ref a) := by
      intro p d1 y e1 hy V1
      have : ∃ d', σ.get p = some d' := by
        rw [get_set] at e1
        split at e1
        · rename_i hh; rw [← hh.1]; exact ⟨_, e₀⟩
        · exact ⟨_, e1⟩
      obtain ⟨d', e'⟩ := this
      refine ⟨⟨d', e'⟩, ?_⟩
      obtain ⟨y', v', _, p1, p2, _⟩ := S.e.vals p d' e'
      have p1' : c.names[p]? = some y' := p1
      rw [hy] at p1'; cases p1'
      have := VarAt.unique V1 (vk _ _ p2)
      subst this
      exact p2
    obtain ⟨⟨f1, g1⟩, w1⟩ := key p d1 y e1 hy V1
    obtain ⟨⟨f2, g2⟩, w2⟩ := key q d2 z e2 hz V2
    exact S.sep p hp q hq hpq f1 f2 g1 g2 y z a hy hz w1 w2
  · obtain ⟨h1, t1, rfl, _⟩ := kk; exact ⟨h', tk, rfl⟩
end
end Mine

namespace Mine
open PySem PyProof.Rows
set_option autoImplicit false
set_option maxRecDepth 10000
mutual
noncomputable def PS.two : PS → Bool
  | .ite _ a b => PSs.two a && PSs.two b
  | .forL _ _ b => PSs.two b
  | .forR _ _ b => PSs.two b
  | .while _ b => PSs.two b
  | .ret _ => false
  | _ => true
noncomputable def PSs.two : PSs → Bool
  | .nil => true
  | .cons s r => PS.two s && PSs.two r
  | .unpA _ _ _ _ _ _ _ r => PSs.two r
  | .unpS _ _ _ _ _ _ _ r => PSs.two r
end
section
variable (prog : Program) (w : World) (m : Mod) (Φ : Nat → List PyData → Option PyData) (fuel : Nat)
noncomputable def PostR (c : Cx) (W : List Addr) (s : Shared) (two : Bool) (Q : Flow → Shared → Prop) : Res → Prop
  | .next σ' => ∀ s' W', Sat m c σ' W' s' → Step c W s s' W' → Q .next s'
  | .ret d => ∀ v s' W' fp, Rd s'.heap v d fp → (∀ a ∈ fp, c.U a) → Step c W s s' W' → (two = true → Two c.h0 s'.heap v) → Q (.ret v) s'
noncomputable def SoundS (c : Cx) (ps : PS) (st : Stmt) : Prop := ∀ σ r s W, denS Φ fuel ps σ = some r → Sat m c σ W s → ∀ (Q : Flow → Shared → Prop) (E : Value → Shared → Prop), PostR m c W s ps.two Q r → wpAny (model prog w) c.A (exec st c.env) Q E s
noncomputable def SoundSs (c : Cx) (ps : PSs) (sts : List Stmt) : Prop := ∀ σ r s W, denSs Φ fuel ps σ = some r → Sat m c σ W s → ∀ (Q : Flow → Shared → Prop) (E : Value → Shared → Prop), PostR m c W s ps.two Q r → wpAny (model prog w) c.A (execs sts c.env) Q E s
end
section
variable {prog : Program} {w : World} {m : Mod} {Φ : Nat → List PyData → Option PyData} {fuel : Nat} {c : Cx} {n : Nat}
theorem ss_nil : SoundSs prog w m Φ fuel c .nil [] := fun σ r s W hd S Q E h => by
  simp only [dSs_nil, Option.some.injEq] at hd; subst hd
  exact wpAny_execs_nil (h s W S (Step.rfl' S))
theorem ss_cons {ps : PS} {pss : PSs} {st : Stmt} {sts : List Stmt} (h1 : SoundS prog w m Φ fuel c ps st) (h2 : SoundSs prog w m Φ fuel c pss sts) : SoundSs prog w m Φ fuel c (.cons ps pss) (st :: sts) := fun σ r s W hd S Q E h => by
  simp only [dSs_cons] at hd
  refine wpAny_execs_cons ?_
  split at hd
  · rename_i σ' e1
    refine h1 σ _ s W e1 S _ E ?_
    intro s' W' S' st'
    refine h2 σ' r s' W' hd S' Q E ?_
    cases r with
    | next σ'' => exact fun s'' W'' S'' st'' => h s'' W'' S'' (st'.trans st'')
    | ret d => exact fun v s'' W'' fp r u st'' ht => h v s'' W'' fp r u (st'.trans st'') fun q => ht ((Bool.and_eq_true_iff.mp q).2)
  · rename_i d e1
    cases hd
    refine h1 σ _ s W e1 S _ E ?_
    exact fun v s' W' fp r u st' ht => h v s' W' fp r u st' fun q => ht ((Bool.and_eq_true_iff.mp q).1)
  · cases hd
theorem s_assign (k : CxOk m n c) {i : Nat} {x : Str} {pe : PE} {e : Expr} {p1 p2 : Pos} (hi : c.names[i]? = some x) (hsw : swapsWith e (some (.Name x p1)) p2.line c.env = pure false) (hcl : pe.clean c.own = true) (hown : i ∈ c.own → pe.tf = true ∧ isVar pe = false)
    (he : ∀ W, SoundE prog w m Φ (c.ce W) pe e) : SoundS prog w m Φ fuel c (.assign i pe) (.Assign [.Name x p1] e p2) := fun σ r s W hd S Q E h => by
  simp only [dS_assign, Option.bind_eq_some_iff, Option.some.injEq] at hd
  obtain ⟨d, hd, rfl⟩ := hd
  refine wpAny_Assign_Name (ev1 (c := c.ce W) (he W) hd S.e fun v s₁ fp o S₁ => ?_) hsw
  have hx : x ∈ c.names := List.mem_of_getElem? hi
  have sm : ∃ h tk, s₁ = { s with heap := h, toks := tk } := by obtain ⟨h, tk, e, _⟩ := o.kp; exact ⟨h, tk, e⟩
  refine store_var' k S o.kp hx fun h' tk st kp => ?_
  have r' : Rd h' v d fp := o.rd.at fun a ha ob q => kp a ob (o.u a ha).1 q
  by_cases ho : i ∈ c.own
  · obtain ⟨ht, _⟩ := hown ho
    obtain ⟨b, as, rfl, rfl, hb, hba⟩ := o.tf ht
    have := S.assignOwn k sm hi (tk := tk) r' o.u st ho hb (fun a ha => o.cl hcl a (.tail _ ha)) hba
    exact h _ _ this.1 this.2
  · have := S.assign k sm hi (tk := tk) r' o.u st ho (o.cl hcl)
    exact h _ _ this.1 this.2
theorem s_ite {pc : PC} {a b : PSs} {e : Expr} {xs ys : List Stmt} {pos : Pos} (hc : ∀ W, SoundC prog w m Φ (c.ce W) pc e) (ha : SoundSs prog w m Φ fuel c a xs) (hb : SoundSs prog w m Φ fuel c b ys) :
    SoundS prog w m Φ fuel c (.ite pc a b) (.If e xs ys pos) := fun σ r s W hd S Q E h => by
  simp only [dS_ite, Option.bind_eq_some_iff] at hd
  obtain ⟨t, ht, hd⟩ := hd
  refine wpAny_If (hc W σ t s ht S.e _ E fun s' kk => ?_)
  have S' := S.mono kk
  have st := Step.of_keeps S kk
  cases t with
  | true =>
    refine ha σ r s' W (by simpa using hd) S' Q E ?_
    cases r with
    | next σ'' => exact fun s'' W'' S'' st'' => h s'' W'' S'' (st.trans st'')
    | ret d => exact fun v s'' W'' fp r u st'' ht => h v s'' W'' fp r u (st.trans st'') fun q => ht ((Bool.and_eq_true_iff.mp q).1)
  | false =>
    refine hb σ r s' W (by simpa using hd) S' Q E ?_
    cases r with
    | next σ'' => exact fun s'' W'' S'' st'' => h s'' W'' S'' (st.trans st'')
    | ret d => exact fun v s'' W'' fp r u st'' ht => h v s'' W'' fp r u (st.trans st'') fun q => ht ((Bool.and_eq_true_iff.mp q).2)
theorem s_ret {pe : PE} {e : Expr} {pos : Pos} (he : ∀ W, SoundE prog w m Φ (c.ce W) pe e) : SoundS prog w m Φ fuel c (.ret pe) (.Return (some e) pos) := fun σ r s W hd S Q E h => by
  simp only [dS_ret, Option.bind_eq_some_iff, Option.some.injEq] at hd
  obtain ⟨d, hd, rfl⟩ := hd
  exact wpAny_Return_some (ev1 (c := c.ce W) (he W) hd S.e fun v s₁ fp o S₁ => h v s₁ W fp o.rd o.u (Step.of_keeps S o.kp) fun q => (nomatch q))
theorem spliced4 {M : Model} {A : Around} {env : Env} {e1 e2 e3 e4 : Expr} {pos : Pos} {s : Shared} {Q : List Value → Shared → Prop} {E : Value → Shared → Prop} (h1 : ∀ x p, e1 ≠ .Starred x p) (h2 : ∀ x p, e2 ≠ .Starred x p) (h3 : ∀ x p, e3 ≠ .Starred x p) (h4 : ∀ x p, e4 ≠ .Starred x p)
    (h : wpAny M A (eval e1 env) (fun v1 s1 => wpAny M A (eval e2 env) (fun v2 s2 => wpAny M A (eval e3 env) (fun v3 s3 => wpAny M A (eval e4 env) (fun v4 s4 => Q [v1, v2, v3, v4] s4) E s3) E s2) E s1) E s) :
    wpAny M A (spliced (backTo pos (starEach [e1, e2, e3, e4] env))) Q E s := by
  have st : ∀ (e : Expr) (rest : List Expr), (∀ x p, e ≠ .Starred x p) → starEach (e :: rest) env = (false, eval e env) :: starEach rest env := by
    intro e rest he
    cases e <;> first | rfl | exact absurd rfl (he _ _)
  refine args_cons (wpAny_mono h (fun v1 s1 q => ?_) fun _ _ q => q) (st _ _ h1)
  refine args_cons (wpAny_mono q (fun v2 s2 q => ?_) fun _ _ q => q) (st _ _ h2)
  refine args_cons (wpAny_mono q (fun v3 s3 q => ?_) fun _ _ q => q) (st _ _ h3)
  exact args_cons (wpAny_mono q (fun v4 s4 q => args_nil q) fun _ _ q => q) (st _ _ h4)
theorem s_ret2 (k : CxOk m n c) {i j : Nat} {x y : Str} {pe pd : PE} {e d : Expr} {p1 p2 pt pos : Pos} {kk : Nat} (hi : c.names[i]? = some x) (hj : c.names[j]? = some y) (hij : i ≠ j) (oi : i ∈ c.own) (oj : j ∈ c.own)
    (nx : (x == ("__classdict__" : Str)) = false ∧ (x == ("__debug__" : Str)) = false) (ny : (y == ("__classdict__" : Str)) = false ∧ (y == ("__debug__" : Str)) = false) (he' : ∀ x p, e ≠ .Starred x p) (hd' : ∀ x p, d ≠ .Starred x p)
    (he : ∀ W, SoundE prog w m Φ (c.ce W) pe e) (hdd : ∀ W, SoundE prog w m Φ (c.ce W) pd d) :
    SoundS prog w m Φ fuel c (.ret2 i j pe pd) (.Return (some (.Tuple [.Name x p1, .Name y p2, e, d] kk pt)) pos) := fun σ r s W hd S Q E h => by
  simp only [dS_ret2, Option.bind_eq_some_iff, Option.some.injEq] at hd
  obtain ⟨da, ha, db, hb, dc, hc, dk, hk, rfl⟩ := hd
  obtain ⟨x', v1, fp1, q1, q2, q3, q4, _, q6⟩ := S.e.vals i da ha
  obtain ⟨y', v2, fp2, r1, r2, r3, r4, _, r6⟩ := S.e.vals j db hb
  have q1' : c.names[i]? = some x' := q1
  have r1' : c.names[j]? = some y' := r1
  rw [hi] at q1'; cases q1'
  rw [hj] at r1'; cases r1'
  obtain ⟨a1, as1, rfl, rfl, w1, _⟩ := q6 oi
  obtain ⟨a2, as2, rfl, rfl, w2, _⟩ := r6 oj
  have hne : a1 ≠ a2 := fun q => by subst q; exact S.sep i oi j oj hij da db ha hb x y a1 hi hj q2 r2
  refine wpAny_Return_some (Tuple_ (spliced4 (by intro _ _ q; cases q) (by intro _ _ q; cases q) he' hd' ?_))
  refine wpAny_Name (VarAt.load q2 k.hk nx.1 ?_) nx.2
  refine wpAny_Name (VarAt.load r2 k.hk ny.1 ?_) ny.2
  refine ev1 (c := c.ce W) (he W) hc S.e fun v3 s3 f3 o3 S3 => ?_
  refine ev1 (c := c.ce W) (hdd W) hk S3 fun v4 s4 f4 o4 S4 => ?_
  refine newTuple_ ?_ (by show 4 ≤ sizeLine; unfold sizeLine; decide)
  have k34 := Keeps.trans' o3.kp o4.kp
  have kk4 : Keep s4.heap (s4.heap.push { cls := .type "tuple", data := .seq ([.ref a1, .ref a2, v3, v4] : List Value).toArray }) := fun b o e => Heap.get?_push_of_some _ e
  have hfr := (SatE.fresh S4 _ (size_fresh s4.heap)).1
  refine h _ _ W (s4.heap.objs.size :: ((a1 :: as1) ++ ((a2 :: as2) ++ (f3 ++ (f4 ++ []))))) (.tuple (isTup_push _ _ _) ((Rds.cons (q3.keeps (Keeps.keep k34)) (.cons (r3.keeps (Keeps.keep k34)) (.cons (o3.rd.keeps (Keeps.keep o4.kp)) (.cons o4.rd .nil)))).keeps kk4)) ?_ (Step.of_keeps S (Keeps.trans' k34 (Keeps.push _ _))) fun _ => ⟨_, a1, a2, v3, v4, rfl, isTup_push _ _ _, hne, (S.w a1 w1).1, (S.w a2 w2).1, none_of_keep S.keep (none_of_keep (Keeps.keep k34) (size_fresh s4.heap))⟩
  intro z hz
  rcases List.mem_cons.mp hz with rfl | hz
  · exact hfr
  · rcases List.mem_append.mp hz with hz | hz
    · exact q4 z hz
    · rcases List.mem_append.mp hz with hz | hz
      · exact r4 z hz
      · rcases List.mem_append.mp hz with hz | hz
        · exact o3.u z hz
        · rcases List.mem_append.mp hz with hz | hz
          · exact o4.u z hz
          · cases hz
end
end Mine

namespace Mine
open PySem PyProof.Rows
set_option autoImplicit false
set_option maxRecDepth 10000
section
variable {prog : Program} {w : World} {m : Mod} {Φ : Nat → List PyData → Option PyData} {fuel : Nat} {c : Cx} {n : Nat}
theorem setItem_plain {A : Around} {E : Value → Shared → Prop} {s : Shared} {l : Addr} {items : Array Value} {k : Int} {t : Tok} {v : Value} {Q : Unit → Shared → Prop} (hp : PlainL s.heap l items)
    (h0 : 0 ≤ k) (hfit : k < 2 ^ 63) (hn : k < items.size) (hQ : ∀ h', PlainL h' l (items.setIfInBounds k.toNat v) → Heap.SameBut l s.heap h' → Q () { s with heap := h' }) :
    wpAny (model prog w) A (setItem (.ref l) (.int k t) v) Q E s := by
  have hl := plainL_list hp
  obtain ⟨o, ne, ho, hc, hdn, hd⟩ := id hp
  unfold setItem
  try with_reducible refine wpAny_holding ?_
  first | refine wpAny_bind (wpAny_pure ?_) | skip
  refine wpAny_bind (wpAny_sequenceKey hl.typeIs (by decide) ?_)
  refine wpAny_bind (wpAny_callSpecial?_slot (name := Str.ofString "__setitem__") hl.typeIs slot_list_setitem
    (wpAny_call_entry slot_list_setitem hl.typeIs entry_list_setitem ?_ (args_list_setitem _ _ _)))
  show wpAny _ _ (Builtin.List.listSubscript? (.int k t) >>= _) _ _ s
  refine wpAny_bind (wpAny_listSubscript_int (fitsIndex_of h0 hfit) ?_)
  clear hfit
  obtain ⟨j, rfl⟩ := Int.eq_ofNat_of_zero_le h0
  have hj : j < items.size := by lia
  have hx' : items[j]? = some items[j] := Array.getElem?_eq_getElem hj
  show wpAny _ _ ((seqItemAt l j >>= fun r => pure (r.map (j, ·))) >>= _) _ _ s
  refine wpAny_bind (wpAny_bind (wpAny_seqItemAt ho hd (wpAny_pure ?_)))
  rw [hx']
  show wpAny _ _ (setSeqItemAt l j v >>= _) _ _ s
  obtain ⟨n', hd'⟩ := Obj.data_mapSeq hd (·.setIfInBounds j v)
  have hfin : PlainL (s.heap.update l (Obj.mapSeq (·.setIfInBounds j v))) l (items.setIfInBounds j v) := by
    refine ⟨_, n', Heap.get?_update_self _ ho (Obj.isFreed_of_seq hd'), (Obj.cls_mapSeq ..).trans hc, ?_, hd'⟩
    obtain ⟨c, d, dt, sl⟩ := o
    subst hd
    exact hdn
  refine wpAny_bind (wpAny_setSeqItemAt ho hd ?_)
  first
    | exact wpAny_bind (wpAny_pure (wpAny_pure ⟨.none, rfl, wpAny_pure (hQ _ hfin (Heap.SameBut.update ..))⟩))
    | exact wpAny_pure ⟨.none, rfl, wpAny_pure (hQ _ hfin (Heap.SameBut.update ..))⟩
theorem Rds.setInt {h : Heap} {i : Int} {t : Tok} {vs : List Value} {ds : List PyData} {fp : List Addr} (k : Nat) (r : Rds h vs ds fp) : RdsS h (vs.set k (.int i t)) (ds.set k (.int i)) fp :=
  Rds.ind (Q := fun vs ds fp => ∀ k, RdsS h (vs.set k (.int i t)) (ds.set k (.int i)) fp) (fun _ => ⟨[], .nil, fun _ h => h⟩) (fun h1 h2 ih k => by
    cases k with
    | zero => exact ⟨_, .cons (as := []) (.int i t) h2, fun a ha => List.mem_append_right _ ha⟩
    | succ k =>
      obtain ⟨fp', r, sub⟩ := ih k
      exact ⟨_, .cons h1 r, fun a ha => (List.mem_append.mp ha).elim (fun q => List.mem_append_left _ q) fun q => List.mem_append_right _ (sub a q)⟩) r k
inductive OwnL (c : Cx) (W : List Addr) (h : Heap) (x : Str) (xs : List PyData) : Prop
  | mk (a : Addr) (as : List Addr) (vs : List Value) (V : VarAt c.env h x (.ref a)) (p : PlainL h a (List.toArray vs)) (r : Rds h vs xs as) (u : ∀ b ∈ as, c.U b) (hw : a ∈ W) (has : ∀ b ∈ as, b ∉ W) : OwnL c W h x xs
section
variable {σ : Store} {W : List Addr} {s s₂ : Shared} {i : Nat} {x : Str} {xs : List PyData} {a : Addr} {as : List Addr} {vs : List Value}
theorem Sat.ownL (S : Sat m c σ W s) (hi : c.names[i]? = some x) (hown : i ∈ c.own) (hl : σ.get i = some (.list xs)) : OwnL c W s.heap x xs := by
  obtain ⟨x', vl, fpl, q1, q2, q3, q4, _, q6⟩ := S.e.vals i _ hl
  cases Option.some.inj (hi.symm.trans q1)
  obtain ⟨a, as, rfl, rfl, hw, has⟩ := q6 hown
  obtain ⟨b, vs, bs, e, e2, p3, r3⟩ := rd_list q3
  cases e; cases e2
  exact ⟨a, as, vs, q2, p3, r3, fun b hb => q4 b (.tail _ hb), hw, has⟩
theorem Sat.setAt (S : Sat m c σ W s) (k : CxOk m n c) (kp : Keeps s s₂) (hi : c.names[i]? = some x) (hown : i ∈ c.own) (hl : σ.get i = some (.list xs)) (V : VarAt c.env s.heap x (.ref a)) (r3 : Rds s.heap vs xs as) (u : ∀ b ∈ as, c.U b) (hw : a ∈ W) (has : ∀ b ∈ as, b ∉ W)
    {h' : Heap} {j : Nat} {v : Int} {t : Tok} (hp : PlainL h' a ((List.toArray vs).setIfInBounds j (.int v t))) (sb : Heap.SameBut a s₂.heap h') :
    Sat m c (σ.set i (some (.list (xs.set j (.int v))))) W { s₂ with heap := h', toks := s₂.toks } ∧ Step c W s { s₂ with heap := h', toks := s₂.toks } W := by
  obtain ⟨fp', r', sub⟩ := Rds.setInt (i := v) (t := t) j (r3.keeps (Keeps.keep kp))
  refine S.changed k kp hi hown hl V sb (.list ?_ (r'.at fun b hb o' e => sb.extBut b o' (fun q => has a (q ▸ sub b hb) hw) e)) (fun b hb => u b (sub b hb)) (fun b hb => has b (sub b hb))
  have e2 : (vs.toArray).setIfInBounds j (Value.int v t) = List.toArray (List.set vs j (Value.int v t)) := by simp
  rw [← e2]; exact hp
theorem Sat.appendAt (S : Sat m c σ W s) (k : CxOk m n c) (kp : Keeps s s₂) (hi : c.names[i]? = some x) (hown : i ∈ c.own) (hl : σ.get i = some (.list xs)) (V : VarAt c.env s.heap x (.ref a)) (r3 : Rds s.heap vs xs as) (u : ∀ b ∈ as, c.U b) (hw : a ∈ W) (has : ∀ b ∈ as, b ∉ W)
    {h' : Heap} {v : Value} {d : PyData} {fp : List Addr} {tk : Nat} (rv : Rd s₂.heap v d fp) (uv : ∀ b ∈ fp, c.U b) (cv : ∀ b ∈ fp, b ∉ W) (hp : PlainL h' a ((List.toArray vs).push v)) (sb : Heap.SameBut a s₂.heap h') :
    Sat m c (σ.set i (some (.list (xs ++ [d])))) W { s₂ with heap := h', toks := tk } ∧ Step c W s { s₂ with heap := h', toks := tk } W := by
  have r : Rds s₂.heap (vs ++ [v]) (xs ++ [d]) (as ++ fp) := List.append_nil fp ▸ (r3.keeps (Keeps.keep kp)).append (.cons rv .nil)
  have hcl : ∀ b ∈ as ++ fp, b ∉ W := fun b hb => (List.mem_append.mp hb).elim (has b) (cv b)
  refine S.changed k kp hi hown hl V sb (.list ?_ (r.at fun b hb o' e => sb.extBut b o' (fun q => hcl b hb (q ▸ hw)) e)) (fun b hb => (List.mem_append.mp hb).elim (u b) (uv b)) hcl
  have e2 : (vs.toArray).push v = List.toArray (vs ++ [v]) := by simp
  rw [← e2]; exact hp
end
inductive DSt (l k d l' : PyData) : Prop
  | mk (xs : List PyData) (i v : Int) (e1 : l = .list xs) (e2 : k = .int i) (e3 : d = .int v) (hb : 0 ≤ i ∧ i < xs.length ∧ xs.length ≤ lim) (e4 : l' = .list (xs.set i.toNat (.int v))) : DSt l k d l'
theorem dStore_inv {l k d l' : PyData} (h : dStore l k d = some l') : DSt l k d l' := by
  cases l with
  | list xs => cases k with
    | int i => cases d with
      | int v =>
        obtain ⟨h1, h2⟩ := if_inv h
        exact ⟨xs, i, v, rfl, rfl, rfl, h1, h2⟩
      | _ => exact (nn h).elim
    | _ => exact (nn h).elim
  | _ => exact (nn h).elim
theorem st_room {i : Int} {xs : List PyData} (h : 0 ≤ i ∧ i < xs.length ∧ xs.length ≤ lim) : i < 2 ^ 63 := by unfold lim at h; lia
inductive DAp (l v l' : PyData) : Prop
  | mk (xs : List PyData) (e1 : l = .list xs) (h : xs.length < lim) (e2 : l' = .list (xs ++ [v])) : DAp l v l'
theorem dAppend_inv {l v l' : PyData} (h : dAppend l v = some l') : DAp l v l' := by
  cases l with
  | list xs =>
    obtain ⟨h1, h2⟩ := if_inv h
    exact ⟨xs, rfl, h1, h2⟩
  | _ => exact (nn h).elim
theorem s_store (k : CxOk m n c) {i : Nat} {x : Str} {pi pe : PE} {ei ee : Expr} {px p1 p2 : Pos} (hi : c.names[i]? = some x) (hown : i ∈ c.own) (nx : (x == ("__classdict__" : Str)) = false ∧ (x == ("__debug__" : Str)) = false)
    (hsw : swapsWith ee (some (.Subscript (.Name x px) ei p1)) p2.line c.env = pure false) (hei : ∀ W, SoundE prog w m Φ (c.ce W) pi ei) (hee : ∀ W, SoundE prog w m Φ (c.ce W) pe ee) :
    SoundS prog w m Φ fuel c (.store i pi pe) (.Assign [.Subscript (.Name x px) ei p1] ee p2) := fun σ r s W hd S Q E h => by
  obtain ⟨d, hd1, i1⟩ := bind1 hd
  clear hd
  obtain ⟨l, hl, i2⟩ := bind1 i1
  clear i1
  obtain ⟨kk, hk, i3⟩ := bind1 i2
  clear i2
  obtain ⟨l', hs, i4⟩ := bind1 i3
  clear i3
  cases i4
  obtain ⟨xs, ki, vi, rfl, rfl, rfl, hb, rfl⟩ := dStore_inv hs
  clear hs
  obtain ⟨a, as, vs, V, p3, r3, u, hw, has⟩ := S.ownL hi hown hl
  refine wpAny_Assign_Subscript (ev1 (c := c.ce W) (hee W) hd1 S.e fun v s₁ fp o S₁ => ?_) hsw
  refine wpAny_Name (VarAt.load (VarAt.keeps (env := c.env) V (Keeps.keep o.kp)) k.hk nx.1 ?_) nx.2
  refine ev1 (c := c.ce W) (hei W) hk S₁ fun v2 s₂ fq o2 S₂ => ?_
  obtain ⟨tv, rfl⟩ := rd_int o.rd
  obtain ⟨tk, rfl⟩ := rd_int o2.rd
  refine setItem_plain (plainL_at p3 fun o' e => Keeps.keep (Keeps.trans' o.kp o2.kp) _ o' e) hb.1 (st_room hb) (by rw [List.size_toArray, r3.length]; exact hb.2.1) fun h' hp' sb => ?_
  have := S.setAt k (Keeps.trans' o.kp o2.kp) hi hown hl V r3 u hw has hp' sb
  exact h _ _ this.1 this.2
theorem s_append (k : CxOk m n c) {i : Nat} {x : Str} {pe : PE} {ee : Expr} {px apos p1 p2 : Pos} (hi : c.names[i]? = some x) (hown : i ∈ c.own) (nx : (x == ("__classdict__" : Str)) = false ∧ (x == ("__debug__" : Str)) = false)
    (hst : ∀ x p, ee ≠ .Starred x p) (hline : (apos.endLine == p1.line) = true) (hcl : pe.clean c.own = true) (hint : interactive c.env = false) (hee : ∀ W, SoundE prog w m Φ (c.ce W) pe ee) :
    SoundS prog w m Φ fuel c (.append i pe) (.Expr (.Call (.Attribute (.Name x px) "append" apos) [ee] [] p1) p2) := fun σ r s W hd S Q E h => by
  obtain ⟨l, hl, i1⟩ := bind1 hd
  clear hd
  obtain ⟨d, hd1, i2⟩ := bind1 i1
  clear i1
  obtain ⟨l', hs, i4⟩ := bind1 i2
  clear i2
  cases i4
  obtain ⟨xs, rfl, hlen, rfl⟩ := dAppend_inv hs
  clear hs
  obtain ⟨a, as, vs, V, p3, r3, u, hw, has⟩ := S.ownL hi hown hl
  have he : starEach [ee] c.env = [(false, eval ee c.env)] := by
    cases ee <;> first | rfl | exact absurd rfl (hst _ _)
  have hb : backTo p1 (starEach [ee] c.env) = [(false, eval ee c.env)] := by rw [he]; rfl
  refine wpAny_Expr ?_ hint rfl
  refine wpAny_Call_append rfl (by rw [hb]; rfl) hline hb (wpAny_Name (VarAt.load V k.hk nx.1 ⟨a, _, rfl, p3, ?_⟩) nx.2)
  refine ev1 (c := c.ce W) (hee W) hd1 S.e fun v s₁ fp o S₁ => ?_
  refine list_append_plainL (plainL_at p3 fun o' e => Keeps.keep o.kp _ o' e) (fun h' hp' sb => ?_) (by rw [List.size_toArray, r3.length]; exact Nat.le_trans (Nat.le_of_lt hlen) lim_le)
  have := S.appendAt k o.kp hi hown hl V r3 u hw has (tk := s₁.toks) o.rd o.u (o.cl hcl) hp' sb
  exact h _ _ this.1 this.2
end
end Mine

namespace Mine
open PySem PyProof.Rows
set_option autoImplicit false
set_option maxRecDepth 10000
theorem l_not_f {h : Heap} {I : Addr} {o : Obj} {ws vs : Array Value} (hI : h.get? I = some o) (hd : o.data = .fields ws) (x : PlainL h I vs) : False := by
  obtain ⟨o', n, e, _, _, e'⟩ := x
  cases hI.symm.trans e
  exact nomatch hd.symm.trans e'
theorem t_not_f {h : Heap} {I : Addr} {o : Obj} {ws vs : Array Value} (hI : h.get? I = some o) (hd : o.data = .fields ws) (x : IsTup h I vs) : False := by
  obtain ⟨o', e, _, n, e'⟩ := x
  cases hI.symm.trans e
  exact nomatch hd.symm.trans e'
theorem d_not_f {h : Heap} {I : Addr} {o : Obj} {ws : Array Value} {f : Int → Option Value} (hI : h.get? I = some o) (hd : o.data = .fields ws) (x : h.IntMap I f) : False := by
  obtain ⟨o', es, ep, e, _, e', _⟩ := x
  cases hI.symm.trans e
  exact nomatch hd.symm.trans e'
theorem not_fields {h : Heap} {I : Addr} {o : Obj} {ws : Array Value} (hI : h.get? I = some o) (hd : o.data = .fields ws) : (∀ {v d fp}, Rd h v d fp → I ∉ fp) ∧ ∀ {vs ds fp}, Rds h vs ds fp → I ∉ fp :=
  Rd.ind (P := fun _ _ fp => I ∉ fp) (Q := fun _ _ fp => I ∉ fp) (fun q => nomatch q) (fun _ q => nomatch q) (fun _ _ q => nomatch q) (fun _ _ q => nomatch q)
    (fun x ih q => (List.mem_cons.mp q).elim (fun e => l_not_f hI hd (e ▸ x)) ih) (fun x ih q => (List.mem_cons.mp q).elim (fun e => t_not_f hI hd (e ▸ x)) ih) (fun x _ q => d_not_f hI hd (List.mem_singleton.mp q ▸ x))
    (fun q => nomatch q) (fun h1 h2 q => (List.mem_append.mp q).elim h1 h2)
theorem rd_not_fields {h : Heap} {I : Addr} {o : Obj} {ws : Array Value} (hI : h.get? I = some o) (hd : o.data = .fields ws) {v : Value} {d : PyData} {fp : List Addr} (r : Rd h v d fp) : I ∉ fp := (not_fields hI hd).1 r
section
variable {prog : Program} {w : World} {m : Mod} {Φ : Nat → List PyData → Option PyData} {fuel : Nat} {c : Cx} {n : Nat}
theorem Sat.turned (k : CxOk m n c) {σ : Store} {W : List Addr} {s : Shared} (S : Sat m c σ W s) {I : Addr} {o : Obj} {ws : Array Value} (hI : s.heap.get? I = some o) (hd : o.data = .fields ws) (hU : c.U I) (hW : I ∉ W) (h0 : c.h0.get? I = none) {h' : Heap} {tk : Nat}
    (kp : ∀ b o, b ∉ [I] → s.heap.get? b = some o → h'.get? b = some o) : Sat m c σ W { s with heap := h', toks := tk } := by
  have kp' : ∀ b o, b ≠ I → s.heap.get? b = some o → h'.get? b = some o := fun b o h e => kp b o (fun q => h (List.mem_singleton.mp q)) e
  have hnew : Keep c.h0 h' := fun a o' e => kp' a o' (fun q => by subst q; rw [h0] at e; cases e) (S.keep a o' e)
  have vk : ∀ y u, VarAt c.env s.heap y u → VarAt c.env h' y u := by
    intro y u V
    rcases V with ⟨h1, ml, h2, h3⟩ | ⟨h1, a, h2, h3⟩
    · refine .inl ⟨h1, ml, ?_, h3⟩
      obtain ⟨o', es, ep, e, r⟩ := h2
      exact ⟨o', es, ep, kp' _ o' (fun q => hU.1 (q ▸ .head _)) e, r⟩
    · refine .inr ⟨h1, a, h2, ?_⟩
      obtain ⟨o', e, r⟩ := h3
      exact ⟨o', kp' _ o' (fun q => hU.1 (q ▸ .tail _ (List.mem_map.mpr ⟨(y, a), mem_of_lookup' h2, rfl⟩))) e, r⟩
  refine ⟨S.len, ⟨k.md.keeps hnew, fun a e => ?_, fun j d e => ?_⟩, ?_, fun p hp => ?_, hnew, fun a ha => ?_, ?_⟩
  · by_cases ha : a = I
    · subst ha; exact ⟨hU, hW⟩
    · refine S.e.fresh a ?_
      cases q : s.heap.get? a with
      | none => rfl
      | some o' => have := kp' a o' ha q; rw [e] at this; cases this
  · obtain ⟨y, v, fp, p1, p2, p3, p4, p5, p6⟩ := S.e.vals j d e
    exact ⟨y, v, fp, p1, vk _ _ p2, p3.at fun a ha o' q => kp' a o' (fun z => rd_not_fields hI hd p3 (z ▸ ha)) q, p4, p5, p6⟩
  · obtain ⟨ml, o', es, ep, e, r⟩ := S.ns
    exact ⟨ml, o', es, ep, kp' _ o' (fun q => hU.1 (q ▸ .head _)) e, r⟩
  · obtain ⟨v, o', e, r⟩ := S.cell p hp
    exact ⟨v, o', kp' _ o' (fun q => hU.1 (q ▸ .tail _ (List.mem_map.mpr ⟨p, hp, rfl⟩))) e, r⟩
  · obtain ⟨h1, h2, o', h3⟩ := S.w a ha
    exact ⟨h1, h2, o', kp' a o' (fun q => hW (q ▸ ha)) h3⟩
  · intro p hp q hq hpq d1 d2 e1 e2 y z a hy hz V1 V2
    have key : ∀ (p : Nat) (d1 : PyData) (y : Str), σ.get p = some d1 → c.names[p]? = some y → VarAt c.env h' y (.ref a) → VarAt c.env s.heap y (.ref a) := by
      intro p d1 y e1 hy V1
      obtain ⟨y', v', _, p1, p2, _⟩ := S.e.vals p d1 e1
      have p1' : c.names[p]? = some y' := p1
      rw [hy] at p1'; cases p1'
      have := VarAt.unique V1 (vk _ _ p2)
      subst this
      exact p2
    exact S.sep p hp q hq hpq d1 d2 e1 e2 y z a hy hz (key p d1 y e1 hy V1) (key q d2 z e2 hz V2)
theorem Step.turned {W W' : List Addr} {s s' : Shared} (st : Step c W s s' W') {I : Addr} (hI : s.heap.get? I = none) (hf : I ∉ c.fixed) {h' : Heap} {tk : Nat} (kp : ∀ b o, b ∉ [I] → s'.heap.get? b = some o → h'.get? b = some o) : Step c W s { s' with heap := h', toks := tk } W' where
  same := by obtain ⟨h, t, rfl⟩ := st.same; exact ⟨h', tk, rfl⟩
  keep := fun b o h1 h2 e => kp b o (fun q => by rw [List.mem_singleton.mp q, hI] at e; cases e) (st.keep b o h1 h2 e)
  grow := st.grow
  fix := fun b hb => let ⟨o, e⟩ := st.fix b hb; ⟨o, kp b o (fun q => hf (List.mem_singleton.mp q ▸ hb)) e⟩
inductive FInv (m : Mod) (c : Cx) (Φ : Nat → List PyData → Option PyData) (fuel : Nat) (body : PSs) (i : Nat) (items : List PyData) (r : Res) (W : List Addr) (s s₂ : Shared) (I : Addr) (fps : List Addr) (St : Nat → Heap → Prop) (q : Nat) (s' : Shared) : Prop
  | mk (j : Nat) (σ' : Store) (W' : List Addr) (hj : j + q = items.length) (hl : loopD (denSs Φ fuel body) i (items.drop j) σ' = some r) (h1 : Sat m c σ' W' s') (h2 : Step c W s s' W') (h3 : St j s'.heap) (h4 : I ∉ W') (h5 : ∀ a ∈ fps, a ∉ W') (h6 : ∀ a ∈ fps, ∀ o, s₂.heap.get? a = some o → s'.heap.get? a = some o) : FInv m c Φ fuel body i items r W s s₂ I fps St q s'
theorem for_any (k : CxOk m n c) {i : Nat} {x : Str} {src : PE} {rng : Bool} {iter : Expr} {body : PSs} {bs : List Stmt} {px pos : Pos} (hi : c.names[i]? = some x) (hno : i ∉ c.own) (hcl : src.clean c.own = true)
    (hset : ∀ v, foldedSetIterable iter c.env v = pure v) (hs : ∀ W, SrcOk prog w m Φ (c.ce W) rng src iter) (hb : SoundSs prog w m Φ fuel c body bs)
    {σ : Store} {r : Res} {s : Shared} {W : List Addr} {y : PyData} {items : List PyData} (hy : denE Φ src σ = some y) (hit : itemsOf rng y = some items) (hl : loopD (denSs Φ fuel body) i items σ = some r) (S : Sat m c σ W s)
    {Q : Flow → Shared → Prop} {E : Value → Shared → Prop} (h : PostR m c W s body.two Q r) : wpAny (model prog w) c.A (exec (.For (.Name x px) iter bs [] pos) c.env) Q E s := by
  refine wpAny_For (iter_any (c := c.ce W) k.A.handled (hs W) hy hit S.e fun I s₂ fpw fps P St it S₂ => ?_) hset
  have hI0 : c.h0.get? I = none := none_of_keep S.keep it.new
  refine codeAny_forLoop (FInv m c Φ fuel body i items r W s s₂ I fps St) ?_ items.length
    ⟨0, σ, W, Nat.zero_add _, hl, S.mono it.kp, Step.of_keeps S it.kp, it.st, it.iu.2, it.cl hcl, fun _ _ _ e => e⟩
  rintro q s' ⟨j, σ', W', hj, hl', S', st', hSt, hIW, hfW, hkp⟩
  obtain ⟨oI, wsI, eI, dI⟩ := it.flds j _ hSt
  by_cases hlt : j < items.length
  · refine it.wk.item j s' _ _ hlt hSt fun v h' tk hP hSt' hk' => ?_
    have S1 : Sat m c σ' W' { s' with heap := h', toks := tk } := S'.turned k eI dI it.iu.1 hIW hI0 hk'
    have st1 : Step c W s { s' with heap := h', toks := tk } W' := st'.turned it.new it.iu.1.1 hk'
    have hdrop : items.drop j = items[j] :: items.drop (j + 1) := List.drop_eq_getElem_cons hlt
    obtain ⟨fp, r0, sub⟩ := it.item j v hP items[j] (by simp [hlt])
    have r1 : Rd h' v items[j] fp := r0.at fun a ha o e => hk' a o (fun q => it.off (List.mem_singleton.mp q ▸ sub a ha)) (hkp a (sub a ha) o e)
    refine wpAny_assign_Name (store_var' k S1 (Keeps.rfl' _) (List.mem_of_getElem? hi) fun h'' tk' st kp => ?_)
    have r2 : Rd h'' v items[j] fp := r1.at fun a ha o e => kp a o (it.u a (sub a ha)).1 e
    obtain ⟨S2, st2⟩ := S1.assign k ⟨_, _, rfl⟩ hi (tk := tk') r2 (fun a ha => it.u a (sub a ha)) st hno (fun a ha => hfW a (sub a ha))
    rw [hdrop, o_l1] at hl'
    have fresh_keep : ∀ (s3 : Shared) (W3 : List Addr), Step c W' { s' with heap := h'', toks := tk' } s3 W3 → (I ∉ W3) ∧ (∀ a ∈ fps, a ∉ W3) ∧ St (j + 1) s3.heap ∧ (∀ a ∈ fps, ∀ o, s₂.heap.get? a = some o → s3.heap.get? a = some o) := by
      intro s3 W3 st3
      have eI1 : ∃ o, h''.get? I = some o := by
        obtain ⟨o, ws, e, _⟩ := it.flds (j + 1) _ hSt'
        exact ⟨o, kp I o it.iu.1.1 e⟩
      have f1 : ∀ a ∈ fps, ∀ o, s₂.heap.get? a = some o → h''.get? a = some o := fun a ha o e => kp a o (it.u a ha).1 (hk' a o (fun q => it.off (List.mem_singleton.mp q ▸ ha)) (hkp a ha o e))
      refine ⟨fun q => ?_, fun a ha q => ?_, ?_, fun a ha o e => st3.keep a o (it.u a ha).1 (hfW a ha) (f1 a ha o e)⟩
      · rcases st3.grow I q with z | z
        · exact hIW z
        · obtain ⟨o, e⟩ := eI1
          have z' : h''.get? I = none := z
          rw [z'] at e; cases e
      · rcases st3.grow a q with z | z
        · exact hfW a ha z
        · obtain ⟨o, e⟩ := it.dom a ha
          have := f1 a ha o e
          have z' : h''.get? a = none := z
          rw [z'] at this; cases this
      · refine it.wk.frame (j + 1) h' s3.heap hSt' fun b hb o e => ?_
        rcases it.sub b hb with rfl | z
        · exact st3.keep b o it.iu.1.1 hIW (kp b o it.iu.1.1 e)
        · exact st3.keep b o (it.u b z).1 (hfW b z) (kp b o (it.u b z).1 e)
    cases hbody : denSs Φ fuel body (List.set σ' i (some items[j])) with
    | none => rw [hbody] at hl'; cases hl'
    | some rb =>
      rw [hbody] at hl'
      refine hb _ rb _ W' hbody S2 _ _ ?_
      cases rb with
      | next σ'' =>
        intro s3 W3 S3 st3
        obtain ⟨f1, f2, f3, f4⟩ := fresh_keep s3 W3 st3
        exact ⟨q - 1, by lia, j + 1, σ'', W3, by lia, hl', S3, (st1.trans st2).trans st3, f3, f1, f2, f4⟩
      | ret d =>
        simp only [Option.some.injEq] at hl'; subst hl'
        exact fun v s3 W3 fp r u st3 ht => h v s3 W3 fp r u ((st1.trans st2).trans st3) ht
  · have hjl : j = items.length := by lia
    subst hjl
    refine it.wk.done s' _ _ hSt fun h' tk hk' => wpAny_execs_nil ?_
    rw [List.drop_length, o_l0] at hl'
    cases hl'
    exact h _ _ (S'.turned k eI dI it.iu.1 hIW hI0 hk') (st'.turned it.new it.iu.1.1 hk')
theorem s_forL (k : CxOk m n c) {i : Nat} {x : Str} {src : PE} {iter : Expr} {body : PSs} {bs : List Stmt} {px pos : Pos} (hi : c.names[i]? = some x) (hno : i ∉ c.own) (hcl : src.clean c.own = true)
    (hset : ∀ v, foldedSetIterable iter c.env v = pure v) (hs : ∀ W, SrcOk prog w m Φ (c.ce W) false src iter) (hb : SoundSs prog w m Φ fuel c body bs) : SoundS prog w m Φ fuel c (.forL i src body) (.For (.Name x px) iter bs [] pos) := fun σ r s W hd S Q E h => by
  simp only [dS_forL, Option.bind_eq_some_iff] at hd
  obtain ⟨y, hy, items, hit, hl⟩ := hd
  exact for_any k hi hno hcl hset hs hb hy hit hl S h
theorem s_forR (k : CxOk m n c) {i : Nat} {x : Str} {src : PE} {iter : Expr} {body : PSs} {bs : List Stmt} {px pos : Pos} (hi : c.names[i]? = some x) (hno : i ∉ c.own) (hcl : src.clean c.own = true)
    (hset : ∀ v, foldedSetIterable iter c.env v = pure v) (hs : ∀ W, SrcOk prog w m Φ (c.ce W) true src iter) (hb : SoundSs prog w m Φ fuel c body bs) : SoundS prog w m Φ fuel c (.forR i src body) (.For (.Name x px) iter bs [] pos) := fun σ r s W hd S Q E h => by
  simp only [dS_forR, Option.bind_eq_some_iff] at hd
  obtain ⟨y, hy, items, hit, hl⟩ := hd
  exact for_any k hi hno hcl hset hs hb hy hit hl S h
theorem s_while {pc : PC} {body : PSs} {e : Expr} {bs : List Stmt} {pos : Pos} (hc : ∀ W, SoundC prog w m Φ (c.ce W) pc e) (hb : SoundSs prog w m Φ fuel c body bs) :
    SoundS prog w m Φ fuel c (.while pc body) (.While e bs [] pos) := fun σ r s W hd S Q E h => by
  simp only [dS_while] at hd
  refine wpAny_While (codeAny_whileLoop (fun q s' => ∃ σ' W', whileD (denC Φ pc) (denSs Φ fuel body) q σ' = some r ∧ Sat m c σ' W' s' ∧ Step c W s s' W') ?_ fuel ⟨σ, W, hd, S, Step.rfl' S⟩)
  rintro q s' ⟨σ', W', hl', S', st'⟩
  cases q with
  | zero => simp [whileD] at hl'
  | succ q =>
    rw [whileD] at hl'
    cases ht : denC Φ pc σ' with
    | none => rw [ht] at hl'; cases hl'
    | some t =>
      rw [ht] at hl'
      refine hc W' σ' t s' ht S'.e _ _ fun s1 kk => ?_
      have S1 := S'.mono kk
      have st1 := st'.trans (Step.of_keeps S' kk)
      cases t with
      | true =>
        rw [if_pos rfl]
        cases hbody : denSs Φ fuel body σ' with
        | none => simp [hbody] at hl'
        | some rb =>
          simp only [hbody] at hl'
          refine hb _ rb _ W' hbody S1 _ _ ?_
          cases rb with
          | next σ'' => exact fun s3 W3 S3 st3 => ⟨q, by lia, σ'', W3, hl', S3, st1.trans st3⟩
          | ret d =>
            simp only [Option.some.injEq] at hl'; subst hl'
            exact fun v s3 W3 fp r u st3 ht => h v s3 W3 fp r u (st1.trans st3) ht
      | false =>
        rw [if_neg Bool.false_ne_true]
        simp only [Option.some.injEq] at hl'; subst hl'
        exact wpAny_execs_nil (h _ _ S1 st1)
end
end Mine

namespace Mine
open PySem PyProof.Rows
set_option autoImplicit false
set_option maxRecDepth 10000
section
variable {prog : Program} {w : World} {m : Mod} {Φ : Nat → List PyData → Option PyData} {fuel : Nat} {c : Cx} {n : Nat}
structure StoredM (c : Cx) (s : Shared) (xs : List (Str × Value)) (h' : Heap) : Prop where
  vars : ∀ p ∈ xs, VarAt c.env h' p.1 p.2
  oth : ∀ y u, y ∈ c.names → (∀ p ∈ xs, y ≠ p.1) → VarAt c.env s.heap y u → VarAt c.env h' y u
  fr : FrameAt c h'
  kp : ∀ b o, b ∉ c.fixed → s.heap.get? b = some o → h'.get? b = some o
theorem storeM (k : CxOk m n c) {s : Shared} {xs : List (Str × Value)} {h : Heap} {tk : Nat} (M : StoredM c s xs h) {x : Str} (hx : x ∈ c.names) (hn : ∀ p ∈ xs, p.1 ∈ c.names ∧ p.1 ≠ x) {v : Value} {A : Around} {E : Value → Shared → Prop} {Q : Unit → Shared → Prop}
    (hQ : ∀ h' tk, StoredM c s ((x, v) :: xs) h' → Q () { s with heap := h', toks := tk }) : wpAny (model prog w) A (storeName c.env x v) Q E { s with heap := h, toks := tk } := by
  refine store_var (s := { s with heap := h, toks := tk }) k M.fr hx fun h' tk' V oth ns cell kp _ => hQ h' tk' ⟨?_, ?_, ⟨ns, cell⟩, fun b o hb e => kp b o hb (M.kp b o hb e)⟩
  · intro p hp
    rcases List.mem_cons.mp hp with rfl | hp
    · exact V
    · exact (oth p.1 p.2 (hn p hp).1 (hn p hp).2).mpr (M.vars p hp)
  · intro y u hy hne V'
    exact (oth y u hy (hne (x, v) (.head _))).mpr (M.oth y u hy (fun p hp => hne p (.tail _ hp)) V')
theorem isIntD_inv {d : PyData} (e : isIntD d = true) : ∃ i, d = .int i := by
  cases d with
  | int i => exact ⟨i, rfl⟩
  | _ => exact Bool.noConfusion (show false = true from e)
theorem ints_fp {h : Heap} {vs : List Value} {ds : List PyData} {fp : List Addr} (r : Rds h vs ds fp) (e : ds.all isIntD = true) : fp = [] :=
  Rds.ind (Q := fun _ ds fp => ds.all isIntD = true → fp = []) (fun _ => rfl) (fun h1 h2 ih e => by
    have e := Bool.and_eq_true_iff.mp e
    obtain ⟨i, rfl⟩ := isIntD_inv e.1
    cases ih e.2
    cases h1; rfl) r e
inductive ListFp : Value → List Addr → Prop
  | mk (a : Addr) : ListFp (.ref a) [a]
theorem list_fp {h : Heap} {v : Value} {d : PyData} {fp : List Addr} (r : Rd h v d fp) (e : intsOnly d = true) : ListFp v fp := by
  cases d with
  | list xs =>
    obtain ⟨a, vs, as, rfl, rfl, p1, r1⟩ := rd_list r
    cases ints_fp r1 e
    exact ⟨a⟩
  | _ => exact Bool.noConfusion (show false = true from e)
theorem tup_at {A : Around} {s : Shared} {E : Value → Shared → Prop} {Q : Value → Shared → Prop} {x : Str} {t : Addr} {items : List Value} {j : Nat} {v : Value} {px pj pos : Pos} {kj : Nat} (hk : c.env.scope.kind = .function) (V : VarAt c.env s.heap x (.ref t)) (ht : IsTup s.heap t items.toArray)
    (nx : (x == ("__classdict__" : Str)) = false ∧ (x == ("__debug__" : Str)) = false) (hj : items[j]? = some v) (hlen : items.length ≤ 64) (h : Q v { s with toks := s.toks + 1 }) :
    wpAny (model prog w) A (eval (.Subscript (.Name x px) (.Constant (.int (j : Int)) kj pj) pos) c.env) Q E s := by
  refine Subscript_ (wpAny_Name (V.load hk nx.1 (wpAny_Constant_int ?_)) nx.2)
  have hlt : j < items.length := (List.getElem?_eq_some_iff.mp hj).1
  have ht' : IsTup ({ s with toks := s.toks + 1 } : Shared).heap t items.toArray := ht
  refine tail_any ht'.typeIs slot_tuple_getitem.lookup (getItem_tuple ht' (by lia) (by lia) (j := j) (x := v) ?_ (by simpa using hj) h) rfl
  have h1 : ¬ ((j : Int) < 0) := by lia
  simp [seqIndex?, h1]; lia
theorem args_call {n' f : Nat} {x : Str} {fa : Addr} {es : PEs} {e : Expr} {rest : List Expr} {np p : Pos} {W : List Addr} (hm : m.Ok) (ho : EnvOk (c.ce W)) (hA : AOk n' c.A) (hΦ : CallOk prog w m Φ n') (hf : m.fns[f]? = some (x, fa))
    (hn : c.env.kindOf x = some .globalImplicit) (hdb : (x == ("__debug__" : Str)) = false) (hst : ∀ x p, e ≠ .Starred x p) (hs : SoundEs prog w m Φ (c.ce W) es (e :: rest)) {σ : Store} {s : Shared} {xs : List PyData} {d : PyData} (S : SatE m (c.ce W) σ s)
    (hxs : denEs Φ es σ = some xs) (hd : Φ f xs = some d) (htw : f ∈ m.twos) {Q E : Value → Shared → Prop} (h : ∀ v s' fp, Keeps s s' → Rd s'.heap v d fp → Two s.heap s'.heap v → Q v s') :
    wpAny (model prog w) c.A (eval (.Call (.Name x np) (e :: rest) [] p) c.env) Q E s := by
  have hmem : (x, fa) ∈ m.fns := List.mem_of_getElem? hf
  obtain ⟨o, fd, ho1, ho2⟩ := S.md.fn x fa hmem
  refine Call_ (Calls.Name_function_global ho.hk hn (Calls.loadGlobal_global (by rw [show c.env.globals = mainGlobals from ho.hg]; exact S.md.g) (hm.fn x fa hmem) ?_) hdb)
  have he : starEach (e :: rest) c.env = (false, eval e c.env) :: starEach rest c.env := by
    cases e <;> first | rfl | exact absurd rfl (hst _ _)
  refine callWith_def ho2 (hs p σ xs s hxs S _ E fun vs s' fp os => ⟨Keeps.keep os.kp _ _ ho1, ?_⟩) he
  have S' := S.mono (Keeps.keep os.kp)
  refine hΦ f xs d hd x fa hf c.A s' vs fp hA S'.md os.rd Q E fun v s'' fp' kk r sub two => h v s'' fp' (Keeps.trans' os.kp kk) r ?_
  obtain ⟨t, a1, a2, x1, y1, e1, e2, e3, e4, e5, e6⟩ := two htw
  exact ⟨t, a1, a2, x1, y1, e1, e2, e3, none_of_keep (Keeps.keep os.kp) e4, none_of_keep (Keeps.keep os.kp) e5, none_of_keep (Keeps.keep os.kp) e6⟩
noncomputable def st4 (σ : Store) (is : Nat × Nat × Nat × Nat) (q : PyData × PyData × PyData × PyData) : Store := (((List.set σ is.1 .none).set is.2.1 (some q.1)).set is.2.2.1 (some q.2.1)).set is.2.2.2 (some q.2.2.1)
inductive Unp (m : Mod) (c : Cx) (σ : Store) (W : List Addr) (s s4 : Shared) (st : Str) (q : PyData × PyData × PyData × PyData) (is : Nat × Nat × Nat × Nat) : Prop
  | mk (t a1 a2 : Addr) (x : Value) (td : Tok) (kd : Int) (V : VarAt c.env s4.heap st (.ref t)) (ht : IsTup s4.heap t (List.toArray [.ref a1, .ref a2, x, .int kd td])) (hq4 : q.2.2.2 = .int kd) (S4 : Sat m c (st4 σ is q) (a1 :: W) s4) (g : Step c W s s4 (a1 :: W)) : Unp m c σ W s s4 st q is
theorem set_look {σ : Store} {i j : Nat} {x : Option PyData} {dd : PyData} (e : Store.get (List.set σ i x) j = some dd) : (i = j ∧ x = some dd) ∨ (i ≠ j ∧ σ.get j = some dd) := by
  rw [get_set] at e
  by_cases h : i = j
  · subst h
    by_cases hl : i < σ.length
    · rw [if_pos ⟨rfl, hl⟩] at e; exact .inl ⟨rfl, e⟩
    · rw [if_neg fun q => hl q.2] at e
      unfold Store.get at e
      rw [List.getElem?_eq_none (Nat.le_of_not_lt hl)] at e; cases e
  · rw [if_neg fun q => h q.1] at e; exact .inr ⟨h, e⟩
theorem unp4_inv {d : PyData} {q : PyData × PyData × PyData × PyData} (hq : unp4 d = some q) : ∃ da db dc dk, d = .tuple [da, db, .int dc, .int dk] ∧ (intsOnly da && intsOnly db) = true ∧ q = (da, db, .int dc, .int dk) := by
  cases d <;> try exact (nn hq).elim
  rename_i xs
  cases xs <;> try exact (nn hq).elim
  rename_i da xs
  cases xs <;> try exact (nn hq).elim
  rename_i db xs
  cases xs <;> try exact (nn hq).elim
  rename_i dc xs
  cases dc <;> try exact (nn hq).elim
  cases xs <;> try exact (nn hq).elim
  rename_i dk xs
  cases dk <;> try exact (nn hq).elim
  cases xs <;> try exact (nn hq).elim
  exact ⟨_, _, _, _, rfl, if_inv hq⟩
inductive RdsC (h : Heap) (d : PyData) (ds : List PyData) : List Value → Prop
  | mk (v : Value) (vs : List Value) (fa fb : List Addr) (h1 : Rd h v d fa) (h2 : Rds h vs ds fb) : RdsC h d ds (v :: vs)
theorem rds_cons {h : Heap} {vs : List Value} {d : PyData} {ds : List PyData} {fp : List Addr} (r : Rds h vs (d :: ds) fp) : RdsC h d ds vs := by
  cases r with
  | cons x y => exact ⟨_, _, _, _, x, y⟩
theorem rds_nil {h : Heap} {vs : List Value} {fp : List Addr} (r : Rds h vs [] fp) : vs = [] := by
  cases r; rfl
inductive RdsF (h : Heap) (a b c d : PyData) : List Value → Prop
  | mk (va vb vc vd : Value) (fa fb fc fd : List Addr) (h1 : Rd h va a fa) (h2 : Rd h vb b fb) (h3 : Rd h vc c fc) (h4 : Rd h vd d fd) : RdsF h a b c d [va, vb, vc, vd]
theorem rds_four {h : Heap} {vs : List Value} {a b c d : PyData} {fp : List Addr} (r : Rds h vs [a, b, c, d] fp) : RdsF h a b c d vs := by
  obtain ⟨va, _, fa, _, ra, r1⟩ := rds_cons r
  clear r
  obtain ⟨vb, _, fb, _, rb, r2⟩ := rds_cons r1
  clear r1
  obtain ⟨vc, _, fc, _, rc, r3⟩ := rds_cons r2
  clear r2
  obtain ⟨vd, _, fd, _, rd, r4⟩ := rds_cons r3
  clear r3
  cases rds_nil r4
  exact ⟨va, vb, vc, vd, fa, fb, fc, fd, ra, rb, rc, rd⟩
theorem tup_same {h : Heap} {t : Addr} {x y : Array Value} (a : IsTup h t x) (b : IsTup h t y) : x = y := by
  obtain ⟨o1, e1, c1, n1, d1⟩ := a
  obtain ⟨o2, e2, c2, n2, d2⟩ := b
  cases e1.symm.trans e2
  exact (Data.seq.inj (d1.symm.trans d2)).1
inductive UnpP (h0 h : Heap) (v : Value) (q : PyData × PyData × PyData × PyData) : Prop
  | mk (da db : PyData) (dc dk : Int) (t a1 a2 : Addr) (tc tkd) (e1 : q = (da, db, .int dc, .int dk)) (e2 : v = .ref t) (h1 : IsTup h t (List.toArray [.ref a1, .ref a2, .int dc tc, .int dk tkd])) (h2 : a1 ≠ a2) (h3 : h0.get? a1 = none) (h4 : h0.get? a2 = none) (h5 : h0.get? t = none) (h6 : Rd h (.ref a1) da [a1]) (h7 : Rd h (.ref a2) db [a2]) : UnpP h0 h v q
theorem unp_parts {h0 h : Heap} {v : Value} {d : PyData} {fp : List Addr} {q : PyData × PyData × PyData × PyData} (rd : Rd h v d fp) (two : Two h0 h v) (hq : unp4 d = some q) : UnpP h0 h v q := by
  obtain ⟨da, db, dc, dk, rfl, hio, rfl⟩ := unp4_inv hq
  rw [Bool.and_eq_true] at hio
  obtain ⟨t, a1, a2, x1, y1, rfl, ht, hne12, hf1, hf2, hft⟩ := two
  obtain ⟨t', vs, as, e, _, ht', rds⟩ := rd_tup rd
  cases e
  obtain ⟨va, vb, vc, vd, fa, fb, fc, fd, ra, rb, rc, rk⟩ := rds_four rds
  cases tup_same ht ht'
  obtain ⟨tc, rfl⟩ := rd_int rc
  obtain ⟨tkd, rfl⟩ := rd_int rk
  cases list_fp ra hio.1
  cases list_fp rb hio.2
  exact ⟨da, db, dc, dk, t, a1, a2, tc, tkd, rfl, rfl, ht, hne12, hf1, hf2, hft, ra, rb⟩
inductive Look (σ : Store) (is : Nat × Nat × Nat × Nat) (q : PyData × PyData × PyData × PyData) : Nat → PyData → Prop
  | n : Look σ is q is.2.1 q.1
  | f : Look σ is q is.2.2.1 q.2.1
  | t : Look σ is q is.2.2.2 q.2.2.1
  | o {j : Nat} {d : PyData} (n1 : j ≠ is.1) (n2 : j ≠ is.2.1) (n3 : j ≠ is.2.2.1) (n4 : j ≠ is.2.2.2) (e : σ.get j = some d) : Look σ is q j d
theorem look4 {σ : Store} {is : Nat × Nat × Nat × Nat} {q : PyData × PyData × PyData × PyData} {j : Nat} {d : PyData} (e : Store.get (st4 σ is q) j = some d) : Look σ is q j d := by
  rcases set_look e with ⟨rfl, q⟩ | ⟨j4, e⟩
  · cases q; exact .t
  rcases set_look e with ⟨rfl, q⟩ | ⟨j3, e⟩
  · cases q; exact .f
  rcases set_look e with ⟨rfl, q⟩ | ⟨j2, e⟩
  · cases q; exact .n
  rcases set_look e with ⟨rfl, q⟩ | ⟨j1, e⟩
  · cases q
  exact .o (Ne.symm j1) (Ne.symm j2) (Ne.symm j3) (Ne.symm j4) e
structure U4 (m : Mod) (n : Nat) (c : Cx) (σ : Store) (W : List Addr) (s s₁ : Shared) (h' : Heap) (st vn vf vt : Str) (q : PyData × PyData × PyData × PyData) (is : Nat × Nat × Nat × Nat) (t a1 a2 : Addr) (vc vd : Value) : Prop where
  k : CxOk m n c
  h1 : c.names[is.1]? = some st
  h2 : c.names[is.2.1]? = some vn
  h3 : c.names[is.2.2.1]? = some vf
  h4 : c.names[is.2.2.2]? = some vt
  o1 : is.2.1 ∈ c.own
  o3 : is.2.2.1 ∉ c.own
  o4 : is.2.2.2 ∉ c.own
  S : Sat m c σ W s
  kp : Keeps s s₁
  ht : IsTup s₁.heap t (List.toArray [.ref a1, .ref a2, vc, vd])
  ne : a1 ≠ a2
  f1 : s.heap.get? a1 = none
  f2 : s.heap.get? a2 = none
  ft : s.heap.get? t = none
  ra : Rd s₁.heap (.ref a1) q.1 [a1]
  rb : Rd s₁.heap (.ref a2) q.2.1 [a2]
  rc : Rd h' vc q.2.2.1 []
  M : StoredM c s₁ [(vt, vc), (vf, .ref a2), (vn, .ref a1), (st, .ref t)] h'
section
variable {σ : Store} {W : List Addr} {s s₁ : Shared} {h' : Heap} {st vn vf vt : Str} {q : PyData × PyData × PyData × PyData} {is : Nat × Nat × Nat × Nat} {t a1 a2 : Addr} {vc vd : Value}
theorem Sat.off {m : Mod} {c : Cx} {σ : Store} {W : List Addr} {s : Shared} (S : Sat m c σ W s) {b : Addr} (e : s.heap.get? b = none) : b ∉ c.fixed := fun q => by obtain ⟨o, eo⟩ := S.fix b q; rw [e] at eo; cases eo
theorem CxOk.apartN {m : Mod} {n : Nat} {c : Cx} (k : CxOk m n c) {i j : Nat} {x y : Str} (hx : c.names[i]? = some x) (hy : c.names[j]? = some y) (hij : i ≠ j) : x ≠ y := fun e => hij (nodup_inj k.nd hx (e ▸ hy))
theorem U4.keep (u : U4 m n c σ W s s₁ h' st vn vf vt q is t a1 a2 vc vd) (b : Addr) (o : Obj) (hb : b ∉ c.fixed) (e : s.heap.get? b = some o) : h'.get? b = some o := u.M.kp b o hb (Keeps.keep u.kp b o e)
theorem U4.new (u : U4 m n c σ W s s₁ h' st vn vf vt q is t a1 a2 vc vd) : Keep c.h0 h' := fun b o e => u.keep b o (fun q => by rw [u.k.new b q] at e; cases e) (u.S.keep b o e)
theorem FrameAt.fixed {c : Cx} {h : Heap} (f : FrameAt c h) (b : Addr) (hb : b ∈ c.fixed) : ∃ o, h.get? b = some o := by
  rcases List.mem_cons.mp hb with rfl | hb
  · obtain ⟨_, o, _, _, e, _⟩ := f.ns; exact ⟨o, e⟩
  · obtain ⟨p, hp, rfl⟩ := List.mem_map.mp hb
    obtain ⟨_, o, e, _⟩ := f.cell p hp; exact ⟨o, e⟩
theorem U4.ra' (u : U4 m n c σ W s s₁ h' st vn vf vt q is t a1 a2 vc vd) : Rd h' (.ref a1) q.1 [a1] := u.ra.at fun b hb o e => u.M.kp b o (u.S.off (List.mem_singleton.mp hb ▸ u.f1)) e
theorem U4.rb' (u : U4 m n c σ W s s₁ h' st vn vf vt q is t a1 a2 vc vd) : Rd h' (.ref a2) q.2.1 [a2] := u.rb.at fun b hb o e => u.M.kp b o (u.S.off (List.mem_singleton.mp hb ▸ u.f2)) e
theorem U4.fr (u : U4 m n c σ W s s₁ h' st vn vf vt q is t a1 a2 vc vd) {a : Addr} (e : h'.get? a = none) : s.heap.get? a = none ∧ a ≠ a1 := by
  refine ⟨?_, fun z => ?_⟩
  · cases z : s.heap.get? a with
    | none => rfl
    | some o =>
      by_cases hfx : a ∈ c.fixed
      · obtain ⟨o', e'⟩ := u.M.fr.fixed a hfx; rw [e] at e'; cases e'
      · have := u.keep a o hfx z; rw [e] at this; cases this
  · subst z
    obtain ⟨o, eo⟩ := u.ra'.dom a (.head _)
    rw [e] at eo; cases eo
theorem U4.other (u : U4 m n c σ W s s₁ h' st vn vf vt q is t a1 a2 vc vd) {j : Nat} {dd : PyData} (n1 : j ≠ is.1) (n2 : j ≠ is.2.1) (n3 : j ≠ is.2.2.1) (n4 : j ≠ is.2.2.2) (e : σ.get j = some dd) : OtherAt c W s h' j dd := by
  obtain ⟨y, v, fp, z1, z2, z3, z4, z5, z6⟩ := u.S.e.vals j dd e
  have z1' : c.names[j]? = some y := z1
  refine ⟨y, v, fp, z1', u.M.oth y v (List.mem_of_getElem? z1') (fun p hp => ?_) (VarAt.keeps (env := c.env) z2 (Keeps.keep u.kp)), z2, z3.at fun a ha o q => u.keep a o (z4 a ha).1 q, z3.dom, z4, z5, z6⟩
  rcases List.mem_cons.mp hp with rfl | hp
  · exact u.k.apartN z1' u.h4 n4
  · rcases List.mem_cons.mp hp with rfl | hp
    · exact u.k.apartN z1' u.h3 n3
    · rcases List.mem_cons.mp hp with rfl | hp
      · exact u.k.apartN z1' u.h2 n2
      · rw [List.mem_singleton.mp hp]; exact u.k.apartN z1' u.h1 n1
theorem OwnAt.more {W : List Addr} {v : Value} {fp : List Addr} (o : OwnAt W v fp) {a1 : Addr} (h : a1 ∉ fp) : OwnAt (a1 :: W) v fp := by
  obtain ⟨a, as, g1, g2, g3, g4⟩ := o
  refine ⟨a, as, g1, g2, .tail _ g3, fun z hz w' => ?_⟩
  rcases List.mem_cons.mp w' with rfl | w'
  · exact h (g2 ▸ .tail _ hz)
  · exact g4 z hz w'
theorem U4.vals (u : U4 m n c σ W s s₁ h' st vn vf vt q is t a1 a2 vc vd) {s' : Shared} (es : s'.heap = h') {j : Nat} {dd : PyData} (e : Store.get (st4 σ is q) j = some dd) : ValsAt (c.ce (a1 :: W)) s' j dd := by
  subst es
  have u1 := u.S.e.fresh a1 u.f1
  have u2 := u.S.e.fresh a2 u.f2
  cases look4 e with
  | n =>
    refine ⟨vn, .ref a1, [a1], u.h2, u.M.vars (vn, .ref a1) (.tail _ (.tail _ (.head _))), u.ra', ?_, fun q => absurd u.o1 q, fun _ => ⟨a1, [], rfl, rfl, .head _, fun _ q => (nomatch q)⟩⟩
    intro z hz; rw [List.mem_singleton.mp hz]; exact u1.1
  | f =>
    refine ⟨vf, .ref a2, [a2], u.h3, u.M.vars (vf, .ref a2) (.tail _ (.head _)), u.rb', ?_, fun _ => ?_, fun q => absurd q u.o3⟩
    · intro z hz; rw [List.mem_singleton.mp hz]; exact u2.1
    · intro z hz q
      rw [List.mem_singleton.mp hz] at q
      exact (List.mem_cons.mp q).elim (fun q => u.ne q.symm) u2.2
  | t => exact ⟨vt, vc, [], u.h4, u.M.vars (vt, vc) (.head _), u.rc, fun _ q => (nomatch q), fun _ _ q => (nomatch q), fun q => absurd q u.o4⟩
  | o n1 n2 n3 n4 e =>
    obtain ⟨y, v, fp, z1, z2, _, z3, z4, z5, z6, z7⟩ := u.other n1 n2 n3 n4 e
    have hno : a1 ∉ fp := fun q => by obtain ⟨o, eo⟩ := z4 a1 q; rw [u.f1] at eo; cases eo
    refine ⟨y, v, fp, z1, z2, z3, z5, fun q z hz w' => ?_, fun q => (z7 q).more hno⟩
    rcases List.mem_cons.mp w' with rfl | w'
    · exact hno hz
    · exact z6 q z hz w'
inductive Key (σ : Store) (h : Heap) (c : Cx) (a1 : Addr) (i : Nat) (p : Nat) (d : PyData) (y : Str) (a : Addr) : Prop
  | new (e1 : p = i) (e2 : a = a1) : Key σ h c a1 i p d y a
  | old (h1 : a ≠ a1) (h2 : VarAt c.env h y (.ref a)) (h3 : σ.get p = some d) : Key σ h c a1 i p d y a
theorem U4.key (u : U4 m n c σ W s s₁ h' st vn vf vt q is t a1 a2 vc vd) {p : Nat} {dd : PyData} {y : Str} {a : Addr} (hp : p ∈ c.own) (e : Store.get (st4 σ is q) p = some dd) (hy : c.names[p]? = some y) (V1 : VarAt c.env h' y (.ref a)) : Key σ s.heap c a1 is.2.1 p dd y a := by
  cases look4 e with
  | n =>
    cases Option.some.inj (u.h2.symm.trans hy)
    cases VarAt.unique V1 (u.M.vars (vn, .ref a1) (.tail _ (.tail _ (.head _))))
    exact .new rfl rfl
  | f => exact absurd hp u.o3
  | t => exact absurd hp u.o4
  | o n1 n2 n3 n4 e =>
    obtain ⟨y', v, fp, z1, z2, z2', _, z4, _, _, z7⟩ := u.other n1 n2 n3 n4 e
    cases Option.some.inj (hy.symm.trans z1)
    cases VarAt.unique V1 z2
    obtain ⟨a', as, g1, g2, _⟩ := z7 hp
    cases g1
    refine .old (fun q => ?_) z2' e
    subst q
    obtain ⟨o, eo⟩ := z4 a (g2 ▸ .head _)
    rw [u.f1] at eo; cases eo
theorem U4.sat (u : U4 m n c σ W s s₁ h' st vn vf vt q is t a1 a2 vc vd) {s' : Shared} (es : s'.heap = h') : Sat m c (st4 σ is q) (a1 :: W) s' := by
  subst es
  refine ⟨by rw [st4, List.length_set, List.length_set, List.length_set, List.length_set]; exact u.S.len, ⟨u.k.md.keeps u.new, fun a e => ?_, fun j dd e => u.vals rfl e⟩, u.M.fr.ns, u.M.fr.cell, u.new, fun a ha => ?_, ?_⟩
  · obtain ⟨g1, g2⟩ := u.fr e
    exact ⟨(u.S.e.fresh a g1).1, fun q => (List.mem_cons.mp q).elim g2 (u.S.e.fresh a g1).2⟩
  · rcases List.mem_cons.mp ha with rfl | ha
    · exact ⟨none_of_keep u.S.keep u.f1, u.S.off u.f1, u.ra'.dom _ (.head _)⟩
    · obtain ⟨g1, g2, o, g3⟩ := u.S.w a ha
      exact ⟨g1, g2, o, u.keep a o g2 g3⟩
  · intro p hp q hq hpq dp dq e1 e2 y z a hy hz V1 V2
    cases u.key hp e1 hy V1 with
    | new i1 i2 => cases u.key hq e2 hz V2 with
      | new i3 i4 => exact hpq (i1.trans i3.symm)
      | old w1 _ _ => exact w1 i2
    | old w1 w2 w3 => cases u.key hq e2 hz V2 with
      | new i3 i4 => exact w1 i4
      | old _ w5 w6 => exact u.S.sep p hp q hq hpq dp dq w3 w6 y z a hy hz w2 w5
theorem U4.step (u : U4 m n c σ W s s₁ h' st vn vf vt q is t a1 a2 vc vd) {tk : Nat} : Step c W s { s₁ with heap := h', toks := tk } (a1 :: W) := by
  obtain ⟨hh, tt, e, _⟩ := id u.kp
  exact ⟨⟨h', tk, by rw [e]⟩, fun b o hb _ e => u.keep b o hb e, fun a ha => (List.mem_cons.mp ha).elim (fun e => .inr (e ▸ u.f1)) .inl, u.M.fr.fixed⟩
end
theorem unp_pre {n' f : Nat} {fx : Str} {fa : Addr} {es : PEs} {e : Expr} {rest : List Expr} {np p q0 q1 q2 q3 q4 q5 q6 q7 q8 q9 r0 r1 r2 r3 r4 r5 r9 : Pos} {k0 k1 k2 : Nat} (hm : m.Ok) (k : CxOk m n c) (hA : AOk n' c.A) (hΦ : CallOk prog w m Φ n')
    (hf : m.fns[f]? = some (fx, fa)) (hn : c.env.kindOf fx = some .globalImplicit) (hdb : (fx == ("__debug__" : Str)) = false) (hst : ∀ x p, e ≠ .Starred x p) (hs : ∀ W, SoundEs prog w m Φ (c.ce W) es (e :: rest)) (htw : f ∈ m.twos)
    {ist ivn ivf ivt : Nat} {st vn vf vt : Str} (h1 : c.names[ist]? = some st) (h2 : c.names[ivn]? = some vn) (h3 : c.names[ivf]? = some vf) (h4 : c.names[ivt]? = some vt) (nst : (st == ("__classdict__" : Str)) = false ∧ (st == ("__debug__" : Str)) = false)
    (hne : ist ≠ ivn ∧ ist ≠ ivf ∧ ist ≠ ivt ∧ ivn ≠ ivf ∧ ivn ≠ ivt ∧ ivf ≠ ivt) (own : ivn ∈ c.own ∧ ist ∉ c.own ∧ ivf ∉ c.own ∧ ivt ∉ c.own)
    {more : List Stmt} {σ : Store} {s : Shared} {W : List Addr} {xs : List PyData} {d : PyData} {q : PyData × PyData × PyData × PyData} (S : Sat m c σ W s) (hxs : denEs Φ es σ = some xs) (hd : Φ f xs = some d) (hq : unp4 d = some q)
    {Q : Flow → Shared → Prop} {E : Value → Shared → Prop} (h : ∀ s4, Unp m c σ W s s4 st q (ist, ivn, ivf, ivt) → wpAny (model prog w) c.A (execs more c.env) Q E s4) :
    wpAny (model prog w) c.A (execs (.Assign [.Name st q0] (.Call (.Name fx np) (e :: rest) [] p) q1 :: .Assign [.Name vn q2] (.Subscript (.Name st q3) (.Constant (.int 0) k0 q4) q5) q6 ::
      .Assign [.Name vf q7] (.Subscript (.Name st q8) (.Constant (.int 1) k1 q9) r0) r1 :: .Assign [.Name vt r2] (.Subscript (.Name st r3) (.Constant (.int 2) k2 r4) r5) r9 :: more) c.env) Q E s := by
  have nm1 := List.mem_of_getElem? h1
  have nm2 := List.mem_of_getElem? h2
  have nm3 := List.mem_of_getElem? h3
  have nm4 := List.mem_of_getElem? h4
  refine wpAny_execs_cons (wpAny_Assign_Name (args_call hm (k.envOk W) hA hΦ hf hn hdb hst (hs W) S.e hxs hd htw fun v s₁ fp kp rd two => ?_) rfl)
  refine Classical.byContradiction fun no => ?_
  obtain ⟨da, db, dc, dk, t, a1, a2, tc, tkd, rfl, rfl, ht, hne12, hf1, hf2, hft, ra, rb⟩ := unp_parts rd two hq
  refine no ?_
  have S₁ := S.mono kp
  have M0 : StoredM c s₁ [] s₁.heap := ⟨fun _ q => (nomatch q), fun _ _ _ _ V => V, ⟨S₁.ns, S₁.cell⟩, fun _ _ _ e => e⟩
  have tupK : ∀ {xs : List (Str × Value)} {h : Heap}, StoredM c s₁ xs h → IsTup h t (List.toArray [.ref a1, .ref a2, .int dc tc, .int dk tkd]) := fun {xs h} M => isTup_at ht fun o e => M.kp t o (S.off hft) e
  refine storeM (s := s₁) (tk := s₁.toks) k M0 nm1 (fun _ q => (nomatch q)) fun h1' tk1 M1 => ?_
  refine wpAny_execs_cons (wpAny_Assign_Name (tup_at (j := 0) k.hk (M1.vars (st, .ref t) (.head _)) (tupK M1) nst rfl (by show 4 ≤ 64; decide) ?_) rfl)
  refine storeM (s := s₁) k M1 nm2 (fun p hp => by rw [List.mem_singleton.mp hp]; exact ⟨nm1, k.apartN h1 h2 hne.1⟩) fun h2' tk2 M2 => ?_
  refine wpAny_execs_cons (wpAny_Assign_Name (tup_at (j := 1) k.hk (M2.vars (st, .ref t) (.tail _ (.head _))) (tupK M2) nst rfl (by show 4 ≤ 64; decide) ?_) rfl)
  refine storeM (s := s₁) k M2 nm3 (fun p hp => ?_) fun h3' tk3 M3 => ?_
  · rcases List.mem_cons.mp hp with rfl | hp
    · exact ⟨nm2, k.apartN h2 h3 hne.2.2.2.1⟩
    · rw [List.mem_singleton.mp hp]; exact ⟨nm1, k.apartN h1 h3 hne.2.1⟩
  refine wpAny_execs_cons (wpAny_Assign_Name (tup_at (j := 2) k.hk (M3.vars (st, .ref t) (.tail _ (.tail _ (.head _)))) (tupK M3) nst rfl (by show 4 ≤ 64; decide) ?_) rfl)
  refine storeM (s := s₁) k M3 nm4 (fun p hp => ?_) fun h4' tk4 M4 => ?_
  · rcases List.mem_cons.mp hp with rfl | hp
    · exact ⟨nm3, k.apartN h3 h4 hne.2.2.2.2.2⟩
    · rcases List.mem_cons.mp hp with rfl | hp
      · exact ⟨nm2, k.apartN h2 h4 hne.2.2.2.2.1⟩
      · rw [List.mem_singleton.mp hp]; exact ⟨nm1, k.apartN h1 h4 hne.2.2.1⟩
  have u : U4 m n c σ W s s₁ h4' st vn vf vt (da, db, .int dc, .int dk) (ist, ivn, ivf, ivt) t a1 a2 (.int dc tc) (.int dk tkd) := ⟨k, h1, h2, h3, h4, own.1, own.2.2.1, own.2.2.2, S, kp, ht, hne12, hf1, hf2, hft, ra, rb, .int _ _, M4⟩
  exact h { s₁ with heap := h4', toks := tk4 } ⟨t, a1, a2, .int dc tc, tkd, dk, M4.vars (st, .ref t) (.tail _ (.tail _ (.tail _ (.head _)))), tupK M4, rfl, u.sat rfl, u.step⟩
end
end Mine

namespace Mine
open PySem PyProof.Rows
set_option autoImplicit false
set_option maxRecDepth 10000
section
variable {prog : Program} {w : World} {m : Mod} {Φ : Nat → List PyData → Option PyData} {fuel : Nat} {c : Cx} {n : Nat}
theorem Stored.sameBut {s : Shared} {x : Str} {v : Value} {h2 h3 : Heap} {C : Addr} (st : Stored c s x v h2) (sb : Heap.SameBut C h2 h3) (hf : C ∉ c.fixed) (hC : s.heap.get? C = none) : Stored c s x v h3 := by
  have hL : c.env.locals ≠ C := fun q => hf (q ▸ .head _)
  have hc : ∀ p ∈ c.env.cells, p.2 ≠ C := fun p hp q => hf (q ▸ .tail _ (List.mem_map.mpr ⟨p, hp, rfl⟩))
  have vk : ∀ y u, VarAt c.env h2 y u → VarAt c.env h3 y u := by
    intro y u V
    rcases V with ⟨h1, ml, q2, q3⟩ | ⟨h1, a, q2, q3⟩
    · exact .inl ⟨h1, ml, q2.sameBut sb hL, q3⟩
    · exact .inr ⟨h1, a, q2, q3.sameBut sb (hc (y, a) (mem_of_lookup' q2))⟩
  exact ⟨vk _ _ st.V, fun y u hy hyx V => vk _ _ (st.oth y u hy hyx V), let ⟨ml, e⟩ := st.ns; ⟨ml, e.sameBut sb hL⟩, fun p hp => let ⟨v, e⟩ := st.cell p hp; ⟨v, e.sameBut sb (hc p hp)⟩,
    fun b o hb e => sb.extBut b o (fun q => by subst q; rw [hC] at e; cases e) (st.kp b o hb e)⟩
theorem s_assignComp (k : CxOk m n c) {i : Nat} {y : Str} {py spos px pos : Pos} {elt' iter : Expr} {ifs : List Expr} {scope : Scope} {x : Str} {caps : List Nat} {rng : Bool} {src : PE} {cond : PC} {elt : PE} (hi : c.names[i]? = some y) (hno : i ∉ c.own)
    (hsw : swapsWith (.ListComp elt' [⟨.Name x px, iter, ifs, 0⟩] scope pos) (some (.Name y py)) spos.line c.env = pure true) (hk : ∀ W, CompOk (c.ce W) scope x caps)
    (hset : ∀ v, foldedSetIterable iter c.env v = pure v) (hs : ∀ W, SrcOk prog w m Φ (c.ce W) rng src iter)
    (hcond : ∀ W C, (ifs = [] ∧ cond = .tt) ∨ ∃ t, ifs = [t] ∧ SoundC prog w m Φ (compCE (c.ce W) scope x caps C) cond t) (helt : ∀ W C, SoundE prog w m Φ (compCE (c.ce W) scope x caps C) elt elt') :
    SoundS prog w m Φ fuel c (.assign i (.comp x caps rng src cond elt)) (.Assign [.Name y py] (.ListComp elt' [⟨.Name x px, iter, ifs, 0⟩] scope pos) spos) := fun σ r s W hd S Q E h => by
  simp only [dS_assign, den_comp, Option.bind_eq_some_iff, Option.map_eq_some_iff, Option.some.injEq] at hd
  obtain ⟨_, ⟨z, hz, items, hit, rs, hcd, rfl⟩, rfl⟩ := hd
  have hk' := hk W
  rw [exec_Assign_Name_used _ _ _ _ hsw]
  refine wpAny_bind (wpAny_standAt (wpAny_bind ?_))
  show wpAny _ c.A (do let _ ← comprehension (.ListComp elt' [⟨.Name x px, iter, ifs, 0⟩] scope pos) scope c.env _ (newList []) false (eval iter c.env) (some (assign (.Name y py) c.env))) _ _ s
  refine wpAny_bind (wpAny_mono (wpAny_comprehension_free (use := some (assign (.Name y py) c.env)) (Q := fun _ s' => Q .next s') rfl hset (closureFor_eq hk'.free) hk'.hk hk'.names
    (iter_any (c := c.ce W) k.A.handled (hs W) hz hit S.e fun I s₂ fpw fps P St it S₂ => ?_)) (fun _ s' hq => wpAny_pure (wpAny_pure hq)) fun _ _ e => e)
  refine comp_block_walkC (RR := fun acc C => compPost (model prog w) c.A E (some (assign (.Name y py) c.env)) (fun _ s' => Q .next s') acc C) it.wk (Nat.le_trans it.len lim_le) _ _ hk'.cell hk'.hk hk'.hx it.st (fun b hb => by
    rcases it.sub b hb with rfl | q
    · obtain ⟨o, _, e, _⟩ := it.flds 0 _ it.st; exact Heap.lt_size e
    · obtain ⟨o, e⟩ := it.dom b q; exact Heap.lt_size e) (comp_quiet hk' (k.envOk W) (hcond W) (helt W) S.e it hcd) ?_
  intro D C h' tk m' ys vs hD hC hDC hn hl hpl hlen hP hF hkeep
  have hIne : ∀ b o, s.heap.get? b = some o → b ∉ [I] := fun b o e q => by rw [List.mem_singleton.mp q, it.new] at e; cases e
  have kp : Keep s.heap h' := fun b o e => hkeep b o (hIne b o e) (Keeps.keep it.kp b o e)
  have hDs : s.heap.get? D = none := none_of_keep (Keeps.keep it.kp) hD
  have hCs : s.heap.get? C = none := none_of_keep (Keeps.keep it.kp) hC
  have fix0 : ∀ {b : Addr}, s.heap.get? b = none → b ∉ c.fixed := fun {b} e q => by obtain ⟨o, eo⟩ := S.fix b q; rw [e] at eo; cases eo
  have hw := S.e.fresh _ hDs
  show wpAny _ c.A (assign (.Name y py) c.env (.ref D)) _ _ _
  obtain ⟨hx2, tx2, e2, _⟩ := id it.kp
  subst e2
  refine wpAny_assign_Name (store_var' (s₁ := { s with heap := h', toks := tk }) k S ⟨h', tk, rfl, kp⟩ (List.mem_of_getElem? hi) fun h2 tk2 st kp2 => ?_)
  refine ⟨m', ?_, fun h3 sb => ?_⟩
  · obtain ⟨o, es, ep, e, r⟩ := hn
    exact ⟨o, es, ep, kp2 C o (fix0 hCs) e, r⟩
  · have st3 := st.sameBut sb (fix0 hCs) hCs
    have hpD : PlainL h3 D (List.toArray ys.toList) := by
      obtain ⟨nn, e⟩ := hpl
      exact ⟨_, nn, sb.extBut D _ hDC (kp2 D _ (fix0 hDs) e), rfl, rfl, by simp⟩
    have hr : Rds h3 ys.toList rs [] := comp_pair (h := hx2) hlen (fun j v d e1 e2 => let ⟨fp, r, _⟩ := it.item j v (hP j v e1) d e2; ⟨fp, r⟩) hcd hF
    have := S.assign (s₁ := { s with heap := h', toks := tk }) k ⟨_, _, rfl⟩ hi (tk := tk2) (.list hpD hr) (fun a ha => by rw [List.mem_singleton.mp ha]; exact hw.1) st3 hno (fun a ha => by rw [List.mem_singleton.mp ha]; exact hw.2)
    exact h _ _ this.1 this.2
theorem ss_unpA {n' f : Nat} {fx : Str} {fa : Addr} {es : PEs} {e : Expr} {rest : List Expr} {np p q0 q1 q2 q3 q4 q5 q6 q7 q8 q9 r0 r1 r2 r3 r4 r5 r6 r7 r8 r9 apos p1 p2 p3 : Pos} {k0 k1 k2 k3 : Nat} (hm : m.Ok) (k : CxOk m n c) (hA : AOk n' c.A) (hΦ : CallOk prog w m Φ n')
    (hf : m.fns[f]? = some (fx, fa)) (hn : c.env.kindOf fx = some .globalImplicit) (hdb : (fx == ("__debug__" : Str)) = false) (hst : ∀ x p, e ≠ .Starred x p) (hs : ∀ W, SoundEs prog w m Φ (c.ce W) es (e :: rest)) (htw : f ∈ m.twos)
    {ist ivn ivf ivt ivm : Nat} {st vn vf vt vm : Str} (h1 : c.names[ist]? = some st) (h2 : c.names[ivn]? = some vn) (h3 : c.names[ivf]? = some vf) (h4 : c.names[ivt]? = some vt) (h5 : c.names[ivm]? = some vm) (nst : (st == ("__classdict__" : Str)) = false ∧ (st == ("__debug__" : Str)) = false)
    (nvm : (vm == ("__classdict__" : Str)) = false ∧ (vm == ("__debug__" : Str)) = false) (hline : (apos.endLine == p1.line) = true) (hint : interactive c.env = false)
    (hne : ist ≠ ivn ∧ ist ≠ ivf ∧ ist ≠ ivt ∧ ivn ≠ ivf ∧ ivn ≠ ivt ∧ ivf ≠ ivt) (hne' : ist ≠ ivm ∧ ivn ≠ ivm ∧ ivf ≠ ivm ∧ ivt ≠ ivm) (own : ivn ∈ c.own ∧ ist ∉ c.own ∧ ivf ∉ c.own ∧ ivt ∉ c.own) (ownm : ivm ∈ c.own)
    {pss : PSs} {more : List Stmt} (hr : SoundSs prog w m Φ fuel c pss more) :
    SoundSs prog w m Φ fuel c (.unpA f es ist ivn ivf ivt ivm pss) (.Assign [.Name st q0] (.Call (.Name fx np) (e :: rest) [] p) q1 :: .Assign [.Name vn q2] (.Subscript (.Name st q3) (.Constant (.int 0) k0 q4) q5) q6 ::
      .Assign [.Name vf q7] (.Subscript (.Name st q8) (.Constant (.int 1) k1 q9) r0) r1 :: .Assign [.Name vt r2] (.Subscript (.Name st r3) (.Constant (.int 2) k2 r4) r5) r9 ::
      .Expr (.Call (.Attribute (.Name vm r6) "append" apos) [.Subscript (.Name st r7) (.Constant (.int 3) k3 r8) p2] [] p1) p3 :: more) := fun σ r s W hd S Q E h => by
  obtain ⟨xs, hxs, i1⟩ := bind1 hd
  clear hd
  obtain ⟨d, hd, i2⟩ := bind1 i1
  clear i1
  obtain ⟨q, hq, i3⟩ := bind1 i2
  clear i2
  obtain ⟨l, hl, i4⟩ := bind1 i3
  clear i3
  obtain ⟨l', hl', hd'⟩ := bind1 i4
  clear i4
  obtain ⟨lxs, rfl, hlen, rfl⟩ := dAppend_inv hl'
  clear hl'
  refine unp_pre hm k hA hΦ hf hn hdb hst hs htw h1 h2 h3 h4 nst hne own S hxs hd hq fun s4 ⟨t, a1, a2, xx, td, kd, V, ht, hq4, S4, st4⟩ => ?_
  have hl4 : Store.get (Mine.st4 σ (ist, ivn, ivf, ivt) q) ivm = some (.list lxs) := by
    rw [Mine.st4, get_set, if_neg (fun z => hne'.2.2.2 z.1), get_set, if_neg (fun z => hne'.2.2.1 z.1), get_set, if_neg (fun z => hne'.2.1 z.1), get_set, if_neg (fun z => hne'.1 z.1)]
    exact hl
  obtain ⟨a, as, vs, V2, p3, r3, u, hw, has⟩ := S4.ownL h5 ownm hl4
  refine wpAny_execs_cons (wpAny_Expr ?_ hint rfl)
  refine wpAny_Call_append rfl rfl hline rfl (wpAny_Name (VarAt.load V2 k.hk nvm.1 ⟨a, _, rfl, p3, tup_at (j := 3) k.hk V ht nst rfl (by show 4 ≤ 64; decide) ?_⟩) nvm.2)
  refine list_append_plainL (s := { s4 with toks := s4.toks + 1 }) p3 (fun h' hp' sb => ?_) (by rw [List.size_toArray, r3.length]; exact Nat.le_trans (Nat.le_of_lt hlen) lim_le)
  have := S4.appendAt k (Keeps.tok s4 (s4.toks + 1)) h5 ownm hl4 V2 r3 u hw has (tk := s4.toks + 1) (d := q.2.2.2) (fp := []) (by rw [hq4]; exact .int kd td) (fun _ q => nomatch q) (fun _ q => nomatch q) hp' sb
  refine hr _ r _ _ hd' this.1 Q E ?_
  have st5 := st4.trans this.2
  cases r with
  | next σ'' => exact fun s3 W3 S3 st3 => h s3 W3 S3 (st5.trans st3)
  | ret dd => exact fun v s3 W3 fp r u st3 ht => h v s3 W3 fp r u (st5.trans st3) ht
theorem ss_unpS {n' f : Nat} {fx : Str} {fa : Addr} {es : PEs} {e : Expr} {rest : List Expr} {np p q0 q1 q2 q3 q4 q5 q6 q7 q8 q9 r0 r1 r2 r3 r4 r5 r6 r7 r8 r9 p1 p2 p3 : Pos} {k0 k1 k2 k3 : Nat} {pi : PE} {ei : Expr} (hm : m.Ok) (k : CxOk m n c) (hA : AOk n' c.A) (hΦ : CallOk prog w m Φ n')
    (hf : m.fns[f]? = some (fx, fa)) (hn : c.env.kindOf fx = some .globalImplicit) (hdb : (fx == ("__debug__" : Str)) = false) (hst : ∀ x p, e ≠ .Starred x p) (hs : ∀ W, SoundEs prog w m Φ (c.ce W) es (e :: rest)) (htw : f ∈ m.twos)
    {ist ivn ivf ivt : Nat} {st vn vf vt : Str} (h1 : c.names[ist]? = some st) (h2 : c.names[ivn]? = some vn) (h3 : c.names[ivf]? = some vf) (h4 : c.names[ivt]? = some vt) (nst : (st == ("__classdict__" : Str)) = false ∧ (st == ("__debug__" : Str)) = false)
    (nvn : (vn == ("__classdict__" : Str)) = false ∧ (vn == ("__debug__" : Str)) = false)
    (hne : ist ≠ ivn ∧ ist ≠ ivf ∧ ist ≠ ivt ∧ ivn ≠ ivf ∧ ivn ≠ ivt ∧ ivf ≠ ivt) (own : ivn ∈ c.own ∧ ist ∉ c.own ∧ ivf ∉ c.own ∧ ivt ∉ c.own) (hi : ∀ W, SoundE prog w m Φ (c.ce W) pi ei)
    {pss : PSs} {more : List Stmt} (hr : SoundSs prog w m Φ fuel c pss more) :
    SoundSs prog w m Φ fuel c (.unpS f es ist ivn ivf ivt pi pss) (.Assign [.Name st q0] (.Call (.Name fx np) (e :: rest) [] p) q1 :: .Assign [.Name vn q2] (.Subscript (.Name st q3) (.Constant (.int 0) k0 q4) q5) q6 ::
      .Assign [.Name vf q7] (.Subscript (.Name st q8) (.Constant (.int 1) k1 q9) r0) r1 :: .Assign [.Name vt r2] (.Subscript (.Name st r3) (.Constant (.int 2) k2 r4) r5) r9 ::
      .Assign [.Subscript (.Name vn r6) ei p1] (.Subscript (.Name st r7) (.Constant (.int 3) k3 r8) p2) p3 :: more) := fun σ r s W hd S Q E h => by
  obtain ⟨xs, hxs, i1⟩ := bind1 hd
  clear hd
  obtain ⟨d, hd, i2⟩ := bind1 i1
  clear i1
  obtain ⟨q, hq, i3⟩ := bind1 i2
  clear i2
  obtain ⟨kk, hkk, i4⟩ := bind1 i3
  clear i3
  obtain ⟨l', hl', hd'⟩ := bind1 i4
  clear i4
  obtain ⟨lxs, ki, vi, e1, rfl, e3, hb, rfl⟩ := dStore_inv hl'
  clear hl'
  refine unp_pre hm k hA hΦ hf hn hdb hst hs htw h1 h2 h3 h4 nst hne own S hxs hd hq fun s4 ⟨t, a1, a2, xx, td, kd, V, ht, hq4, S4, st4⟩ => ?_
  cases e3.symm.trans hq4
  have hl4 : Store.get (Mine.st4 σ (ist, ivn, ivf, ivt) q) ivn = some (.list lxs) := by
    rw [Mine.st4, get_set, if_neg (fun z => hne.2.2.2.2.1 z.1.symm), get_set, if_neg (fun z => hne.2.2.2.1 z.1.symm), get_set, if_pos ⟨rfl, by rw [List.length_set, S.len]; exact (List.getElem?_eq_some_iff.mp h2).1⟩]
    exact congrArg some e1
  obtain ⟨a, as, vs, V2, p3, r3, u, hw, has⟩ := S4.ownL h2 own.1 hl4
  refine wpAny_execs_cons (wpAny_Assign_Subscript (tup_at (j := 3) k.hk V ht nst rfl (by show 4 ≤ 64; decide) ?_) rfl)
  refine wpAny_Name (VarAt.load V2 k.hk nvn.1 ?_) nvn.2
  refine ev1 (c := c.ce (a1 :: W)) (hi _) hkk (S4.e.mono (s' := { s4 with toks := s4.toks + 1 }) fun _ _ e => e) fun v2 s5 fq o5 S5 => ?_
  have k5 : Keeps s4 s5 := Keeps.trans' (Keeps.tok s4 (s4.toks + 1)) o5.kp
  obtain ⟨tk, rfl⟩ := rd_int o5.rd
  refine setItem_plain (plainL_at p3 fun o' e => Keeps.keep k5 _ o' e) hb.1 (st_room hb) (by rw [List.size_toArray, r3.length]; exact hb.2.1) fun h' hp' sb => ?_
  have := S4.setAt k k5 h2 own.1 hl4 V2 r3 u hw has hp' sb
  refine hr _ r _ _ hd' this.1 Q E ?_
  have st5 := st4.trans this.2
  cases r with
  | next σ'' => exact fun s3 W3 S3 st3 => h s3 W3 S3 (st5.trans st3)
  | ret dd => exact fun v s3 W3 fp r u st3 ht => h v s3 W3 fp r u (st5.trans st3) ht
end
end Mine

namespace Mine
open PySem PyProof.Rows
set_option autoImplicit false
set_option maxRecDepth 10000
structure Ck where
  names : List Str
  sc : List (Str × NameKind)
  own : List Nat
  fns : List Str
  twos : List Nat
  nest : Bool
noncomputable def Ck.glob (ck : Ck) (x : Str) : Bool := ck.sc.lookup x == some .globalImplicit
noncomputable def tame (x : Str) : Bool := !(x == ("__classdict__" : Str)) && !(x == ("__debug__" : Str))
noncomputable def onBool (e : Expr) (k : BoolOp → (List Expr) → Pos → Bool) : Bool := if h : e.ctorIdx = 0 then Expr.BoolOp.elim (motive_1 := fun _ => Bool) e h k else false
theorem onBool_inv {e : Expr} {k : BoolOp → (List Expr) → Pos → Bool} (h : onBool e k = true) : ∃ op' es' p', e = .BoolOp op' es' p' ∧ k op' es' p' = true := by
  by_cases q : e.ctorIdx = 0
  · exact Expr.BoolOp.elim (motive_1 := fun e => onBool e k = true → ∃ op' es' p', e = .BoolOp op' es' p' ∧ k op' es' p' = true) e q (fun op' es' p' h => ⟨op', es', p', rfl, h⟩) h
  · unfold onBool at h; rw [dif_neg q] at h; exact (Bool.false_ne_true h).elim
noncomputable def onBin (e : Expr) (k : Expr → Operator → Expr → Pos → Bool) : Bool := if h : e.ctorIdx = 2 then Expr.BinOp.elim (motive_1 := fun _ => Bool) e h k else false
theorem onBin_inv {e : Expr} {k : Expr → Operator → Expr → Pos → Bool} (h : onBin e k = true) : ∃ l' o' r' p', e = .BinOp l' o' r' p' ∧ k l' o' r' p' = true := by
  by_cases q : e.ctorIdx = 2
  · exact Expr.BinOp.elim (motive_1 := fun e => onBin e k = true → ∃ l' o' r' p', e = .BinOp l' o' r' p' ∧ k l' o' r' p' = true) e q (fun l' o' r' p' h => ⟨l', o', r', p', rfl, h⟩) h
  · unfold onBin at h; rw [dif_neg q] at h; exact (Bool.false_ne_true h).elim
noncomputable def onUn (e : Expr) (k : UnaryOp → Expr → Pos → Bool) : Bool := if h : e.ctorIdx = 3 then Expr.UnaryOp.elim (motive_1 := fun _ => Bool) e h k else false
theorem onUn_inv {e : Expr} {k : UnaryOp → Expr → Pos → Bool} (h : onUn e k = true) : ∃ o' l' p', e = .UnaryOp o' l' p' ∧ k o' l' p' = true := by
  by_cases q : e.ctorIdx = 3
  · exact Expr.UnaryOp.elim (motive_1 := fun e => onUn e k = true → ∃ o' l' p', e = .UnaryOp o' l' p' ∧ k o' l' p' = true) e q (fun o' l' p' h => ⟨o', l', p', rfl, h⟩) h
  · unfold onUn at h; rw [dif_neg q] at h; exact (Bool.false_ne_true h).elim
noncomputable def onIf (e : Expr) (k : Expr → Expr → Expr → Pos → Bool) : Bool := if h : e.ctorIdx = 5 then Expr.IfExp.elim (motive_1 := fun _ => Bool) e h k else false
theorem onIf_inv {e : Expr} {k : Expr → Expr → Expr → Pos → Bool} (h : onIf e k = true) : ∃ t' l' r' p', e = .IfExp t' l' r' p' ∧ k t' l' r' p' = true := by
  by_cases q : e.ctorIdx = 5
  · exact Expr.IfExp.elim (motive_1 := fun e => onIf e k = true → ∃ t' l' r' p', e = .IfExp t' l' r' p' ∧ k t' l' r' p' = true) e q (fun t' l' r' p' h => ⟨t', l', r', p', rfl, h⟩) h
  · unfold onIf at h; rw [dif_neg q] at h; exact (Bool.false_ne_true h).elim
noncomputable def onDict (e : Expr) (k : (List (Option Expr)) → (List Expr) → Pos → Bool) : Bool := if h : e.ctorIdx = 6 then Expr.Dict.elim (motive_1 := fun _ => Bool) e h k else false
theorem onDict_inv {e : Expr} {k : (List (Option Expr)) → (List Expr) → Pos → Bool} (h : onDict e k = true) : ∃ ks' vs' p', e = .Dict ks' vs' p' ∧ k ks' vs' p' = true := by
  by_cases q : e.ctorIdx = 6
  · exact Expr.Dict.elim (motive_1 := fun e => onDict e k = true → ∃ ks' vs' p', e = .Dict ks' vs' p' ∧ k ks' vs' p' = true) e q (fun ks' vs' p' h => ⟨ks', vs', p', rfl, h⟩) h
  · unfold onDict at h; rw [dif_neg q] at h; exact (Bool.false_ne_true h).elim
noncomputable def onListComp (e : Expr) (k : Expr → (List Comprehension) → Scope → Pos → Bool) : Bool := if h : e.ctorIdx = 8 then Expr.ListComp.elim (motive_1 := fun _ => Bool) e h k else false
theorem onListComp_inv {e : Expr} {k : Expr → (List Comprehension) → Scope → Pos → Bool} (h : onListComp e k = true) : ∃ elt' gs' sc' p', e = .ListComp elt' gs' sc' p' ∧ k elt' gs' sc' p' = true := by
  by_cases q : e.ctorIdx = 8
  · exact Expr.ListComp.elim (motive_1 := fun e => onListComp e k = true → ∃ elt' gs' sc' p', e = .ListComp elt' gs' sc' p' ∧ k elt' gs' sc' p' = true) e q (fun elt' gs' sc' p' h => ⟨elt', gs', sc', p', rfl, h⟩) h
  · unfold onListComp at h; rw [dif_neg q] at h; exact (Bool.false_ne_true h).elim
noncomputable def onCompare (e : Expr) (k : Expr → (List CmpOp) → (List Expr) → Pos → Bool) : Bool := if h : e.ctorIdx = 15 then Expr.Compare.elim (motive_1 := fun _ => Bool) e h k else false
theorem onCompare_inv {e : Expr} {k : Expr → (List CmpOp) → (List Expr) → Pos → Bool} (h : onCompare e k = true) : ∃ l' os' rs' p', e = .Compare l' os' rs' p' ∧ k l' os' rs' p' = true := by
  by_cases q : e.ctorIdx = 15
  · exact Expr.Compare.elim (motive_1 := fun e => onCompare e k = true → ∃ l' os' rs' p', e = .Compare l' os' rs' p' ∧ k l' os' rs' p' = true) e q (fun l' os' rs' p' h => ⟨l', os', rs', p', rfl, h⟩) h
  · unfold onCompare at h; rw [dif_neg q] at h; exact (Bool.false_ne_true h).elim
noncomputable def onCall (e : Expr) (k : Expr → (List Expr) → (List Keyword) → Pos → Bool) : Bool := if h : e.ctorIdx = 16 then Expr.Call.elim (motive_1 := fun _ => Bool) e h k else false
theorem onCall_inv {e : Expr} {k : Expr → (List Expr) → (List Keyword) → Pos → Bool} (h : onCall e k = true) : ∃ f' xs' ks' p', e = .Call f' xs' ks' p' ∧ k f' xs' ks' p' = true := by
  by_cases q : e.ctorIdx = 16
  · exact Expr.Call.elim (motive_1 := fun e => onCall e k = true → ∃ f' xs' ks' p', e = .Call f' xs' ks' p' ∧ k f' xs' ks' p' = true) e q (fun f' xs' ks' p' h => ⟨f', xs', ks', p', rfl, h⟩) h
  · unfold onCall at h; rw [dif_neg q] at h; exact (Bool.false_ne_true h).elim
noncomputable def onConst (e : Expr) (k : Const → Nat → Pos → Bool) : Bool := if h : e.ctorIdx = 19 then Expr.Constant.elim (motive_1 := fun _ => Bool) e h k else false
theorem onConst_inv {e : Expr} {k : Const → Nat → Pos → Bool} (h : onConst e k = true) : ∃ c' k' p', e = .Constant c' k' p' ∧ k c' k' p' = true := by
  by_cases q : e.ctorIdx = 19
  · exact Expr.Constant.elim (motive_1 := fun e => onConst e k = true → ∃ c' k' p', e = .Constant c' k' p' ∧ k c' k' p' = true) e q (fun c' k' p' h => ⟨c', k', p', rfl, h⟩) h
  · unfold onConst at h; rw [dif_neg q] at h; exact (Bool.false_ne_true h).elim
noncomputable def onAttr (e : Expr) (k : Expr → Str → Pos → Bool) : Bool := if h : e.ctorIdx = 20 then Expr.Attribute.elim (motive_1 := fun _ => Bool) e h k else false
theorem onAttr_inv {e : Expr} {k : Expr → Str → Pos → Bool} (h : onAttr e k = true) : ∃ o' x' p', e = .Attribute o' x' p' ∧ k o' x' p' = true := by
  by_cases q : e.ctorIdx = 20
  · exact Expr.Attribute.elim (motive_1 := fun e => onAttr e k = true → ∃ o' x' p', e = .Attribute o' x' p' ∧ k o' x' p' = true) e q (fun o' x' p' h => ⟨o', x', p', rfl, h⟩) h
  · unfold onAttr at h; rw [dif_neg q] at h; exact (Bool.false_ne_true h).elim
noncomputable def onSub (e : Expr) (k : Expr → Expr → Pos → Bool) : Bool := if h : e.ctorIdx = 21 then Expr.Subscript.elim (motive_1 := fun _ => Bool) e h k else false
theorem onSub_inv {e : Expr} {k : Expr → Expr → Pos → Bool} (h : onSub e k = true) : ∃ l' r' p', e = .Subscript l' r' p' ∧ k l' r' p' = true := by
  by_cases q : e.ctorIdx = 21
  · exact Expr.Subscript.elim (motive_1 := fun e => onSub e k = true → ∃ l' r' p', e = .Subscript l' r' p' ∧ k l' r' p' = true) e q (fun l' r' p' h => ⟨l', r', p', rfl, h⟩) h
  · unfold onSub at h; rw [dif_neg q] at h; exact (Bool.false_ne_true h).elim
noncomputable def onName (e : Expr) (k : Str → Pos → Bool) : Bool := if h : e.ctorIdx = 23 then Expr.Name.elim (motive_1 := fun _ => Bool) e h k else false
theorem onName_inv {e : Expr} {k : Str → Pos → Bool} (h : onName e k = true) : ∃ x' p', e = .Name x' p' ∧ k x' p' = true := by
  by_cases q : e.ctorIdx = 23
  · exact Expr.Name.elim (motive_1 := fun e => onName e k = true → ∃ x' p', e = .Name x' p' ∧ k x' p' = true) e q (fun x' p' h => ⟨x', p', rfl, h⟩) h
  · unfold onName at h; rw [dif_neg q] at h; exact (Bool.false_ne_true h).elim
noncomputable def onList (e : Expr) (k : (List Expr) → Pos → Bool) : Bool := if h : e.ctorIdx = 24 then Expr.List.elim (motive_1 := fun _ => Bool) e h k else false
theorem onList_inv {e : Expr} {k : (List Expr) → Pos → Bool} (h : onList e k = true) : ∃ xs' p', e = .List xs' p' ∧ k xs' p' = true := by
  by_cases q : e.ctorIdx = 24
  · exact Expr.List.elim (motive_1 := fun e => onList e k = true → ∃ xs' p', e = .List xs' p' ∧ k xs' p' = true) e q (fun xs' p' h => ⟨xs', p', rfl, h⟩) h
  · unfold onList at h; rw [dif_neg q] at h; exact (Bool.false_ne_true h).elim
noncomputable def onTuple (e : Expr) (k : (List Expr) → Nat → Pos → Bool) : Bool := if h : e.ctorIdx = 25 then Expr.Tuple.elim (motive_1 := fun _ => Bool) e h k else false
theorem onTuple_inv {e : Expr} {k : (List Expr) → Nat → Pos → Bool} (h : onTuple e k = true) : ∃ xs' k' p', e = .Tuple xs' k' p' ∧ k xs' k' p' = true := by
  by_cases q : e.ctorIdx = 25
  · exact Expr.Tuple.elim (motive_1 := fun e => onTuple e k = true → ∃ xs' k' p', e = .Tuple xs' k' p' ∧ k xs' k' p' = true) e q (fun xs' k' p' h => ⟨xs', k', p', rfl, h⟩) h
  · unfold onTuple at h; rw [dif_neg q] at h; exact (Bool.false_ne_true h).elim
noncomputable def onSlice (e : Expr) (k : (Option Expr) → (Option Expr) → (Option Expr) → Pos → Bool) : Bool := if h : e.ctorIdx = 26 then Expr.Slice.elim (motive_1 := fun _ => Bool) e h k else false
theorem onSlice_inv {e : Expr} {k : (Option Expr) → (Option Expr) → (Option Expr) → Pos → Bool} (h : onSlice e k = true) : ∃ a' b' c' p', e = .Slice a' b' c' p' ∧ k a' b' c' p' = true := by
  by_cases q : e.ctorIdx = 26
  · exact Expr.Slice.elim (motive_1 := fun e => onSlice e k = true → ∃ a' b' c' p', e = .Slice a' b' c' p' ∧ k a' b' c' p' = true) e q (fun a' b' c' p' h => ⟨a', b', c', p', rfl, h⟩) h
  · unfold onSlice at h; rw [dif_neg q] at h; exact (Bool.false_ne_true h).elim
noncomputable def onReturn (e : Stmt) (k : (Option Expr) → Pos → Bool) : Bool := if h : e.ctorIdx = 3 then Stmt.Return.elim (motive_2 := fun _ => Bool) e h k else false
theorem onReturn_inv {e : Stmt} {k : (Option Expr) → Pos → Bool} (h : onReturn e k = true) : ∃ v' p', e = .Return v' p' ∧ k v' p' = true := by
  by_cases q : e.ctorIdx = 3
  · exact Stmt.Return.elim (motive_2 := fun e => onReturn e k = true → ∃ v' p', e = .Return v' p' ∧ k v' p' = true) e q (fun v' p' h => ⟨v', p', rfl, h⟩) h
  · unfold onReturn at h; rw [dif_neg q] at h; exact (Bool.false_ne_true h).elim
noncomputable def onAssign (e : Stmt) (k : (List Expr) → Expr → Pos → Bool) : Bool := if h : e.ctorIdx = 5 then Stmt.Assign.elim (motive_2 := fun _ => Bool) e h k else false
theorem onAssign_inv {e : Stmt} {k : (List Expr) → Expr → Pos → Bool} (h : onAssign e k = true) : ∃ ts' v' p', e = .Assign ts' v' p' ∧ k ts' v' p' = true := by
  by_cases q : e.ctorIdx = 5
  · exact Stmt.Assign.elim (motive_2 := fun e => onAssign e k = true → ∃ ts' v' p', e = .Assign ts' v' p' ∧ k ts' v' p' = true) e q (fun ts' v' p' h => ⟨ts', v', p', rfl, h⟩) h
  · unfold onAssign at h; rw [dif_neg q] at h; exact (Bool.false_ne_true h).elim
noncomputable def onFor (e : Stmt) (k : Expr → Expr → (List Stmt) → (List Stmt) → Pos → Bool) : Bool := if h : e.ctorIdx = 9 then Stmt.For.elim (motive_2 := fun _ => Bool) e h k else false
theorem onFor_inv {e : Stmt} {k : Expr → Expr → (List Stmt) → (List Stmt) → Pos → Bool} (h : onFor e k = true) : ∃ t' it' bs' os' p', e = .For t' it' bs' os' p' ∧ k t' it' bs' os' p' = true := by
  by_cases q : e.ctorIdx = 9
  · exact Stmt.For.elim (motive_2 := fun e => onFor e k = true → ∃ t' it' bs' os' p', e = .For t' it' bs' os' p' ∧ k t' it' bs' os' p' = true) e q (fun t' it' bs' os' p' h => ⟨t', it', bs', os', p', rfl, h⟩) h
  · unfold onFor at h; rw [dif_neg q] at h; exact (Bool.false_ne_true h).elim
noncomputable def onWhile (e : Stmt) (k : Expr → (List Stmt) → (List Stmt) → Pos → Bool) : Bool := if h : e.ctorIdx = 11 then Stmt.While.elim (motive_2 := fun _ => Bool) e h k else false
theorem onWhile_inv {e : Stmt} {k : Expr → (List Stmt) → (List Stmt) → Pos → Bool} (h : onWhile e k = true) : ∃ t' bs' os' p', e = .While t' bs' os' p' ∧ k t' bs' os' p' = true := by
  by_cases q : e.ctorIdx = 11
  · exact Stmt.While.elim (motive_2 := fun e => onWhile e k = true → ∃ t' bs' os' p', e = .While t' bs' os' p' ∧ k t' bs' os' p' = true) e q (fun t' bs' os' p' h => ⟨t', bs', os', p', rfl, h⟩) h
  · unfold onWhile at h; rw [dif_neg q] at h; exact (Bool.false_ne_true h).elim
noncomputable def onIfS (e : Stmt) (k : Expr → (List Stmt) → (List Stmt) → Pos → Bool) : Bool := if h : e.ctorIdx = 12 then Stmt.If.elim (motive_2 := fun _ => Bool) e h k else false
theorem onIfS_inv {e : Stmt} {k : Expr → (List Stmt) → (List Stmt) → Pos → Bool} (h : onIfS e k = true) : ∃ t' xs' ys' p', e = .If t' xs' ys' p' ∧ k t' xs' ys' p' = true := by
  by_cases q : e.ctorIdx = 12
  · exact Stmt.If.elim (motive_2 := fun e => onIfS e k = true → ∃ t' xs' ys' p', e = .If t' xs' ys' p' ∧ k t' xs' ys' p' = true) e q (fun t' xs' ys' p' h => ⟨t', xs', ys', p', rfl, h⟩) h
  · unfold onIfS at h; rw [dif_neg q] at h; exact (Bool.false_ne_true h).elim
noncomputable def onExprS (e : Stmt) (k : Expr → Pos → Bool) : Bool := if h : e.ctorIdx = 24 then Stmt.Expr.elim (motive_2 := fun _ => Bool) e h k else false
theorem onExprS_inv {e : Stmt} {k : Expr → Pos → Bool} (h : onExprS e k = true) : ∃ v' p', e = .Expr v' p' ∧ k v' p' = true := by
  by_cases q : e.ctorIdx = 24
  · exact Stmt.Expr.elim (motive_2 := fun e => onExprS e k = true → ∃ v' p', e = .Expr v' p' ∧ k v' p' = true) e q (fun v' p' h => ⟨v', p', rfl, h⟩) h
  · unfold onExprS at h; rw [dif_neg q] at h; exact (Bool.false_ne_true h).elim
noncomputable def notStar (e : Expr) : Bool := decide (e.ctorIdx ≠ 22)
noncomputable def notSlice (e : Expr) : Bool := decide (e.ctorIdx ≠ 26)
noncomputable def notSet (e : Expr) : Bool := decide (e.ctorIdx ≠ 7)
noncomputable def notComp (e : Expr) : Bool := decide (e.ctorIdx ≠ 8 ∧ e.ctorIdx ≠ 9 ∧ e.ctorIdx ≠ 10)
noncomputable def plainTest (e : Expr) : Bool := decide (e.ctorIdx ≠ 3 ∧ e.ctorIdx ≠ 0 ∧ e.ctorIdx ≠ 5 ∧ e.ctorIdx ≠ 15)
noncomputable def isTT (c : PC) : Bool := Nat.beq c.ctorIdx 0
noncomputable def isC (a : PE) : Bool := Nat.ble 15 a.ctorIdx && Nat.ble a.ctorIdx 18
theorem two {a b : Bool} (h : (a && b) = true) : a = true ∧ b = true := Bool.and_eq_true_iff.mp h
theorem andT {a b : Bool} (h1 : a = true) (h2 : b = true) : (a && b) = true := by rw [h1, h2]; rfl
theorem any_some {α : Type} {o : Option α} {p : α → Bool} (h : o.any p = true) : ∃ x, o = some x ∧ p x = true := by
  cases o with
  | none => exact (Bool.false_ne_true h).elim
  | some x => exact ⟨x, rfl, h⟩
noncomputable def onOne {α : Type} (xs : List α) (k : α → Bool) : Bool := match xs with
  | [x] => k x
  | _ => false
theorem onOne_inv {α : Type} {xs : List α} {k : α → Bool} (h : onOne xs k = true) : ∃ x, xs = [x] ∧ k x = true := by
  cases xs with
  | nil => exact (Bool.false_ne_true h).elim
  | cons x xs =>
    cases xs with
    | nil => exact ⟨x, rfl, h⟩
    | cons _ _ => exact (Bool.false_ne_true h).elim
theorem nil_of {α : Type} {xs : List α} (h : xs.isEmpty = true) : xs = [] := List.isEmpty_iff.mp h
noncomputable def isInt (j : Int) (e : Expr) : Bool := onConst e fun c _ _ => decide (c = .int j)
theorem isInt_inv {j : Int} {e : Expr} (h : isInt j e = true) : ∃ k p, e = .Constant (.int j) k p := by
  obtain ⟨c, k, p, rfl, h⟩ := onConst_inv h
  cases of_decide_eq_true h
  exact ⟨k, p, rfl⟩
noncomputable def isNoneK (e : Expr) : Bool := onConst e fun c _ _ => decide (c = .none)
theorem isNoneK_inv {e : Expr} (h : isNoneK e = true) : ∃ k p, e = .Constant .none k p := by
  obtain ⟨c, k, p, rfl, h⟩ := onConst_inv h
  cases of_decide_eq_true h
  exact ⟨k, p, rfl⟩
noncomputable def onCmp1 (e : Expr) (k : Expr → CmpOp → Expr → Bool) : Bool := onCompare e fun l os rs _ => onOne os fun o => onOne rs fun r => k l o r
theorem onCmp1_inv {e : Expr} {k : Expr → CmpOp → Expr → Bool} (h : onCmp1 e k = true) : ∃ l o r p, e = .Compare l [o] [r] p ∧ k l o r = true := by
  obtain ⟨l, os, rs, p, rfl, h⟩ := onCompare_inv h
  obtain ⟨o, rfl, h⟩ := onOne_inv h
  obtain ⟨r, rfl, h⟩ := onOne_inv h
  exact ⟨l, o, r, p, rfl, h⟩
noncomputable def isCall1 (ck : Ck) (nm : Str) (e : Expr) (g : Expr → Bool) : Bool := onCall e fun f xs ks _ => onName f fun x _ => onOne xs fun l => ks.isEmpty && x == nm && ck.glob x && notStar l && g l
inductive C1 (ck : Ck) (nm : Str) (g : Expr → Bool) : Expr → Prop
  | mk (np l p) (h1 : ck.glob nm = true) (h2 : notStar l = true) (h3 : g l = true) : C1 ck nm g (.Call (.Name nm np) [l] [] p)
theorem isCall1_inv {ck : Ck} {nm : Str} {e : Expr} {g : Expr → Bool} (h : isCall1 ck nm e g = true) : C1 ck nm g e := by
  obtain ⟨f, xs, ks, p, rfl, h⟩ := onCall_inv h
  obtain ⟨x, np, rfl, h⟩ := onName_inv h
  obtain ⟨l, rfl, h⟩ := onOne_inv h
  obtain ⟨h, h4⟩ := two h
  obtain ⟨h, h3⟩ := two h
  obtain ⟨h, h2⟩ := two h
  obtain ⟨h0, h1⟩ := two h
  cases eq_of_beq h1
  cases nil_of h0
  exact ⟨np, l, p, h2, h3, h4⟩
noncomputable def onLC (e : Expr) (k : Expr → Str → Expr → List Expr → Int → Scope → Pos → Bool) : Bool := onListComp e fun elt gs sc p => onOne gs fun g => onName g.target fun x _ => k elt x g.iter g.ifs g.is_async sc p
theorem onLC_inv {e : Expr} {k : Expr → Str → Expr → List Expr → Int → Scope → Pos → Bool} (h : onLC e k = true) : ∃ elt x px it ifs as sc p, e = .ListComp elt [⟨.Name x px, it, ifs, as⟩] sc p ∧ k elt x it ifs as sc p = true := by
  obtain ⟨elt, gs, sc, p, rfl, h⟩ := onListComp_inv h
  obtain ⟨⟨t, it, ifs, as⟩, rfl, h⟩ := onOne_inv h
  obtain ⟨x, px, rfl, h⟩ := onName_inv h
  exact ⟨elt, x, px, it, ifs, as, sc, p, rfl, h⟩
noncomputable def compScope (ck : Ck) (scope : Scope) (x : Str) (caps : List Nat) : Bool :=
  ck.nest && scope.kind == .function && scope.names.all (fun y => y.2 != .cell) && scope.names.all (fun y => y.2 != .local || scope.names.lookup y.1 == some .local) && scope.names.lookup x == some .local &&
  caps.all (fun i => match ck.names[i]? with | some y => ck.sc.lookup y == some .cell && scope.names.lookup y == some .free | none => false) &&
  scope.names.all (fun y => y.2 != .free || ck.sc.lookup y.1 == some .cell)
noncomputable def compCk (ck : Ck) (scope : Scope) (x : Str) (caps : List Nat) : Ck :=
  { ck with names := x :: caps.map (fun i => (ck.names[i]?).getD ""), sc := relNames (fun y => ck.sc.lookup y) scope.names, own := [], nest := false }
mutual
noncomputable def chkE (ck : Ck) : PE → Expr → Bool
  | .none, e => isNoneK e
  | .bool b, e => onConst e fun c _ _ => decide (c = .bool b)
  | .int i, e => isInt i e
  | .str x, e => onConst e fun c _ _ => decide (c = .str x)
  | .var i, e => onName e fun x _ => ck.names[i]? == some x && tame x
  | .add a b, e => onBin e fun l o r _ => decide (o = .Add) && chkE ck a l && chkE ck b r
  | .sub a b, e => onBin e fun l o r _ => decide (o = .Sub) && chkE ck a l && chkE ck b r
  | .mulc k a, e => onBin e fun l o r _ => decide (o = .Mult) && isInt k l && chkE ck a r
  | .mod a b, e => onBin e fun l o r _ => decide (o = .Mod) && chkE ck a l && chkE ck b r
  | .divc a k, e => onBin e fun l o r _ => decide (o = .FloorDiv) && isInt k r && chkE ck a l
  | .neg a, e => onUn e fun o l _ => decide (o = .USub) && chkE ck a l
  | .cat a b, e => onBin e fun l o r _ => decide (o = .Add) && chkE ck a l && chkE ck b r
  | .repl a b, e => onBin e fun l o r _ => decide (o = .Mult) && onList l (fun xs _ => onOne xs fun x => notStar x && chkE ck a x) && chkE ck b r
  | .scat a b, e => onBin e fun l o r _ => decide (o = .Add) && chkE ck a l && chkE ck b r
  | .strOf a, e => isCall1 ck (Str.ofString "str") e fun l => chkE ck a l
  | .cmp o a b, e => onCmp1 e fun l op r => decide (op = opOf o) && !behindInMarks op r && chkE ck a l && chkE ck b r
  | .isN a, e => onCmp1 e fun l op r => decide (op = .Is) && isNoneK r && chkE ck a l
  | .notN a, e => onCmp1 e fun l op r => decide (op = .IsNot) && isNoneK r && chkE ck a l
  | .typeIs a T, e => onCmp1 e fun l op r => decide (op = .Is) && decide (T = "int" ∨ T = "tuple") && onName r (fun y _ => y == Str.ofString T && ck.glob y) && isCall1 ck (Str.ofString "type") l fun l => chkE ck a l
  | .ite c a b, e => onIf e fun t l r _ => chkC ck c t && chkE ck a l && chkE ck b r
  | .idx a b, e => onSub e fun l r _ => notSlice r && chkE ck a l && chkE ck b r
  | .last a, e => onSub e fun l r _ => onUn r (fun o u _ => decide (o = .USub) && isInt 1 u) && chkE ck a l
  | .slLH a lo hi, e => onSub e fun l r _ => onSlice r (fun x y z _ => z.isNone && x.any (fun x => chkE ck lo x) && y.any fun y => chkE ck hi y) && chkE ck a l
  | .slH a hi, e => onSub e fun l r _ => onSlice r (fun x y z _ => z.isNone && x.isNone && y.any fun y => chkE ck hi y) && chkE ck a l
  | .slL a lo, e => onSub e fun l r _ => onSlice r (fun x y z _ => z.isNone && y.isNone && x.any fun x => chkE ck lo x) && chkE ck a l
  | .list es, e => onList e fun xs _ => chkEs ck es xs
  | .tuple es, e => onTuple e fun xs _ _ => chkEs ck es xs
  | .dict0, e => onDict e fun ks vs _ => ks.isEmpty && vs.isEmpty
  | .call f es, e => onCall e fun g xs ks _ => onName g fun x _ => ks.isEmpty && !xs.isEmpty && ck.fns[f]? == some x && ck.glob x && tame x && chkEs ck es xs
  | .len a, e => isCall1 ck (Str.ofString "len") e fun l => chkE ck a l
  | .listOf a, e => isCall1 ck (Str.ofString "list") e fun l => chkE ck a l
  | .dictOf a, e => isCall1 ck (Str.ofString "dict") e fun l => chkE ck a l
  | .abs a, e => isCall1 ck (Str.ofString "abs") e fun l => chkE ck a l
  | .sum a, e => isCall1 ck (Str.ofString "sum") e fun l => chkE ck a l
  | .comp x caps rng src cond elt, e => onLC e fun elt' x' it ifs as sc _ => x == x' && decide (as = 0) && compScope ck sc x caps && notSet it &&
      (if rng then isCall1 ck (Str.ofString "range") it fun l => chkE ck src l else chkE ck src it) &&
      (match ifs with | [] => isTT cond | [t] => chkC (compCk ck sc x caps) cond t | _ => false) && chkE (compCk ck sc x caps) elt elt'
noncomputable def chkEs (ck : Ck) : PEs → List Expr → Bool
  | .nil, es => es.isEmpty
  | .cons a r, es => match es with | e :: es => notStar e && chkE ck a e && chkEs ck r es | [] => false
noncomputable def chkC (ck : Ck) : PC → Expr → Bool
  | .tt, _ => false
  | .ex a, e => (isC a || plainTest e) && chkE ck a e
  | .not c, e => onUn e fun o l _ => decide (o = .Not) && chkC ck c l
  | .and a b, e => onBool e fun o es p => decide (o = .And) && match es with
    | [l, r] => chkC ck a l && chkC ck b r
    | l :: r :: s :: es => chkC ck a l && chkC ck b (.BoolOp .And (r :: s :: es) p)
    | _ => false
  | .or a b, e => onBool e fun o es p => decide (o = .Or) && match es with
    | [l, r] => chkC ck a l && chkC ck b r
    | l :: r :: s :: es => chkC ck a l && chkC ck b (.BoolOp .Or (r :: s :: es) p)
    | _ => false
end
noncomputable def onAsg (st : Stmt) (k : Str → Pos → Expr → Bool) : Bool := onAssign st fun ts v _ => onOne ts fun t => onName t fun x p => k x p v
theorem onAsg_inv {st : Stmt} {k : Str → Pos → Expr → Bool} (h : onAsg st k = true) : ∃ x p v q, st = .Assign [.Name x p] v q ∧ k x p v = true := by
  obtain ⟨ts, v, q, rfl, h⟩ := onAssign_inv h
  obtain ⟨t, rfl, h⟩ := onOne_inv h
  obtain ⟨x, p, rfl, h⟩ := onName_inv h
  exact ⟨x, p, v, q, rfl, h⟩
noncomputable def onAsgSub (st : Stmt) (k : Str → Expr → Expr → Bool) : Bool := onAssign st fun ts v _ => onOne ts fun t => onSub t fun o i _ => onName o fun x _ => k x i v
theorem onAsgSub_inv {st : Stmt} {k : Str → Expr → Expr → Bool} (h : onAsgSub st k = true) : ∃ x p i q v r, st = .Assign [.Subscript (.Name x p) i q] v r ∧ k x i v = true := by
  obtain ⟨ts, v, r, rfl, h⟩ := onAssign_inv h
  obtain ⟨t, rfl, h⟩ := onOne_inv h
  obtain ⟨o, i, q, rfl, h⟩ := onSub_inv h
  obtain ⟨x, p, rfl, h⟩ := onName_inv h
  exact ⟨x, p, i, q, v, r, rfl, h⟩
noncomputable def onApp (st : Stmt) (k : Str → Str → Pos → Pos → Expr → Bool) : Bool := onExprS st fun v _ => onCall v fun f xs ks p1 => onAttr f fun o ap apos => onName o fun x _ => onOne xs fun e => ks.isEmpty && k x ap apos p1 e
theorem onApp_inv {st : Stmt} {k : Str → Str → Pos → Pos → Expr → Bool} (h : onApp st k = true) : ∃ x p ap apos e p1 q, st = .Expr (.Call (.Attribute (.Name x p) ap apos) [e] [] p1) q ∧ k x ap apos p1 e = true := by
  obtain ⟨v, q, rfl, h⟩ := onExprS_inv h
  obtain ⟨f, xs, ks, p1, rfl, h⟩ := onCall_inv h
  obtain ⟨o, ap, apos, rfl, h⟩ := onAttr_inv h
  obtain ⟨x, p, rfl, h⟩ := onName_inv h
  obtain ⟨e, rfl, h⟩ := onOne_inv h
  obtain ⟨h0, h9⟩ := two h
  cases nil_of h0
  exact ⟨x, p, ap, apos, e, p1, q, rfl, h9⟩
noncomputable def isSub (k : Int) (s : Str) (e : Expr) : Bool := onSub e fun o i _ => onName o (fun x _ => x == s) && isInt k i
theorem isSub_inv {k : Int} {s : Str} {e : Expr} (h : isSub k s e = true) : ∃ p kk p' p'', e = .Subscript (.Name s p) (.Constant (.int k) kk p') p'' := by
  obtain ⟨o, i, q, rfl, h⟩ := onSub_inv h
  obtain ⟨x, p, rfl, h1⟩ := onName_inv (two h).1
  obtain ⟨kk, p', rfl⟩ := isInt_inv (two h).2
  cases eq_of_beq h1
  exact ⟨p, kk, p', q, rfl⟩
noncomputable def nmAt (ck : Ck) (i : Nat) : Str := (ck.names[i]?).getD ""
noncomputable def isPick (k : Int) (s x : Str) (st : Stmt) : Bool := onAsg st fun y _ v => y == x && isSub k s v
theorem isPick_inv {k : Int} {s x : Str} {st : Stmt} (h : isPick k s x st = true) : ∃ p1 p2 kk p3 p4 p5, st = .Assign [.Name x p1] (.Subscript (.Name s p2) (.Constant (.int k) kk p3) p4) p5 := by
  obtain ⟨y, p1, v, p5, rfl, h⟩ := onAsg_inv h
  obtain ⟨p2, kk, p3, p4, rfl⟩ := isSub_inv (two h).2
  cases eq_of_beq (two h).1
  exact ⟨p1, p2, kk, p3, p4, p5, rfl⟩
noncomputable def isHead (ck : Ck) (f : Nat) (es : PEs) (s : Str) (st : Stmt) : Bool := onAsg st fun y _ v => y == s && chkE ck (.call f es) v
noncomputable def chkUnp (ck : Ck) (f : Nat) (es : PEs) (ist ivn ivf ivt : Nat) (s1 s2 s3 s4 : Stmt) (last : Bool) : Bool :=
  isHead ck f es (nmAt ck ist) s1 && isPick 0 (nmAt ck ist) (nmAt ck ivn) s2 && isPick 1 (nmAt ck ist) (nmAt ck ivf) s3 && isPick 2 (nmAt ck ist) (nmAt ck ivt) s4 &&
    (decide (ck.names[ist]? = some (nmAt ck ist) ∧ ck.names[ivn]? = some (nmAt ck ivn) ∧ ck.names[ivf]? = some (nmAt ck ivf) ∧ ck.names[ivt]? = some (nmAt ck ivt) ∧ tame (nmAt ck ist) = true ∧ f ∈ ck.twos) &&
    decide ((ist ≠ ivn ∧ ist ≠ ivf ∧ ist ≠ ivt ∧ ivn ≠ ivf ∧ ivn ≠ ivt ∧ ivf ≠ ivt) ∧ (ivn ∈ ck.own ∧ ist ∉ ck.own ∧ ivf ∉ ck.own ∧ ivt ∉ ck.own))) && last
noncomputable def lastA (ck : Ck) (ist ivn ivf ivt ivm : Nat) (s5 : Stmt) : Bool :=
  onApp s5 fun x ap apos p1 e => ck.names[ivm]? == some x && isSub 3 (nmAt ck ist) e && tame x && ap == Str.ofString "append" && apos.endLine == p1.line && decide ((ist ≠ ivm ∧ ivn ≠ ivm ∧ ivf ≠ ivm ∧ ivt ≠ ivm) ∧ ivm ∈ ck.own)
noncomputable def lastS (ck : Ck) (ist ivn : Nat) (pi : PE) (s5 : Stmt) : Bool := onAsgSub s5 fun x i v => x == nmAt ck ivn && isSub 3 (nmAt ck ist) v && tame (nmAt ck ivn) && chkE ck pi i
noncomputable def swapT (ck : Ck) (y : Str) (p : Pos) (scope : Scope) (vpos : Pos) : Bool :=
  ck.sc.lookup y == some .local && p.line == vpos.line && !(scope.names.any fun (n, k) => n == y && (k == .local || k == .cell))
mutual
noncomputable def chkS (ck : Ck) : PS → Stmt → Bool
  | .assign i pe, st => onAsg st fun x p1 v => ck.names[i]? == some x && (if notComp v then chkE ck pe v && pe.clean ck.own && (!ck.own.contains i || (pe.tf && !isVar pe))
      else onLC v (fun _ _ _ _ _ sc vpos => swapT ck x p1 sc vpos) && !ck.own.contains i && decide (pe.ctorIdx = 34) && chkE ck pe v)
  | .store i a b, st => onAsgSub st fun x ei ee => ck.names[i]? == some x && ck.own.contains i && tame x && notComp ee && chkE ck a ei && chkE ck b ee
  | .append i a, st => onApp st fun x ap apos p1 ee => ck.names[i]? == some x && ck.own.contains i && tame x && ap == Str.ofString "append" && apos.endLine == p1.line && notStar ee && a.clean ck.own && chkE ck a ee
  | .ite c a b, st => onIfS st fun e xs ys _ => chkC ck c e && chkSs ck a xs && chkSs ck b ys
  | .forL i it body, st => onFor st fun t iter bs os _ => onName t fun x _ => os.isEmpty && ck.names[i]? == some x && !ck.own.contains i && it.clean ck.own && notSet iter && chkE ck it iter && chkSs ck body bs
  | .forR i it body, st => onFor st fun t iter bs os _ => onName t fun x _ => os.isEmpty && ck.names[i]? == some x && !ck.own.contains i && it.clean ck.own && isCall1 ck (Str.ofString "range") iter (fun l => chkE ck it l) && chkSs ck body bs
  | .while c body, st => onWhile st fun e bs os _ => os.isEmpty && chkC ck c e && chkSs ck body bs
  | .ret a, st => onReturn st fun v _ => v.any fun e => chkE ck a e
  | .ret2 i j a b, st => onReturn st fun v _ => v.any fun t => onTuple t fun xs _ _ => match xs with
    | [ex, ey, e, d] => onName ex (fun x _ => ck.names[i]? == some x && tame x) && onName ey (fun y _ => ck.names[j]? == some y && tame y) && decide (i ≠ j) && ck.own.contains i && ck.own.contains j && notStar e && notStar d && chkE ck a e && chkE ck b d
    | _ => false
  | .stuck, _ => true
noncomputable def chkSs (ck : Ck) : PSs → List Stmt → Bool
  | .nil, sts => sts.isEmpty
  | .cons s r, sts => match sts with | st :: sts => chkS ck s st && chkSs ck r sts | [] => false
  | .unpA f es ist ivn ivf ivt ivm r, sts => match sts with
    | s1 :: s2 :: s3 :: s4 :: s5 :: more => chkUnp ck f es ist ivn ivf ivt s1 s2 s3 s4 (lastA ck ist ivn ivf ivt ivm s5) && chkSs ck r more
    | _ => false
  | .unpS f es ist ivn ivf ivt pi r, sts => match sts with
    | s1 :: s2 :: s3 :: s4 :: s5 :: more => chkUnp ck f es ist ivn ivf ivt s1 s2 s3 s4 (lastS ck ist ivn pi s5) && chkSs ck r more
    | _ => false
end
structure CkOk (m : Mod) (n : Nat) (ck : Ck) (c : CE) : Prop where
  names : c.names = ck.names
  kind : ∀ x, c.env.kindOf x = ck.sc.lookup x
  env : EnvOk c
  A : AOk n c.A
  own : c.own = ck.own
  fns : ∀ (f : Nat) x, ck.fns[f]? = some x → ∃ a, m.fns[f]? = some (x, a)
  twos : ck.twos = m.twos
  cells : ck.nest = true → ∀ y, c.env.kindOf y = some .cell → (c.env.cells.lookup y).isSome = true
theorem tame_parts {x : Str} (h : tame x = true) : (x == ("__classdict__" : Str)) = false ∧ (x == ("__debug__" : Str)) = false := by
  simpa [tame] using h
theorem star_of {e : Expr} (h : notStar e = true) : ∀ x p, e ≠ .Starred x p := fun x p q => by subst q; exact (Bool.false_ne_true h).elim
theorem slice_of {e : Expr} (h : notSlice e = true) : ∀ x y z p, e ≠ .Slice x y z p := fun x y z p q => by subst q; exact (Bool.false_ne_true h).elim
theorem set_of {e : Expr} {env : Env} (h : notSet e = true) : ∀ v, foldedSetIterable e env v = pure v := fun v => by
  cases e <;> first | rfl | exact (Bool.false_ne_true h).elim
theorem AOk.units' {n : Nat} {A : Around} (h : AOk n A) : A.units + 100 < cLine := by have := h.units; lia
theorem comp_ok {m : Mod} {n : Nat} {ck : Ck} {c : CE} {scope : Scope} {x : Str} {caps : List Nat} (k : CkOk m n ck c) (h : compScope ck scope x caps = true) : CompOk c scope x caps := by
  simp only [compScope, Bool.and_eq_true, List.all_eq_true, beq_iff_eq, bne_iff_ne, Bool.or_eq_true] at h
  obtain ⟨⟨⟨⟨⟨⟨hn, h1⟩, h2⟩, h3⟩, h4⟩, h5⟩, h6⟩ := h
  refine ⟨h1, h2, fun y hy hl => (h3 y hy).resolve_left (fun q => q hl), h4, fun i hi => ?_, fun y hy hf => ?_⟩
  · have := h5 i hi
    split at this
    · rename_i y hy
      rw [Bool.and_eq_true, beq_iff_eq, beq_iff_eq] at this
      exact ⟨y, by rw [k.names]; exact hy, by rw [k.kind]; exact this.1, this.2⟩
    · cases this
  · exact k.cells hn y.1 (by rw [k.kind]; exact (h6 y hy).resolve_left (fun q => q hf))
theorem comp_ck {m : Mod} {n : Nat} {ck : Ck} {c : CE} {scope : Scope} {x : Str} {caps : List Nat} (k : CkOk m n ck c) (hk : CompOk c scope x caps) (C : Addr) : CkOk m n (compCk ck scope x caps) (compCE c scope x caps C) where
  names := by show x :: _ = x :: _; rw [k.names]
  kind := fun y => by
    show (relabel scope c.env).names.lookup y = (relNames (fun y => ck.sc.lookup y) scope.names).lookup y
    rw [relabel_names k.env.hk]
    have : c.env.kindOf = fun y => ck.sc.lookup y := funext k.kind
    rw [this]
  env := ⟨hk.hk, k.env.hg, k.env.hb⟩
  A := k.A
  own := rfl
  fns := k.fns
  twos := k.twos
  cells := fun q => by cases q
end Mine

namespace Mine
open PySem PyProof.Rows
set_option autoImplicit false
set_option maxRecDepth 10000
section
variable {prog : Program} {w : World} {m : Mod} {Φ : Nat → List PyData → Option PyData} {n : Nat}
theorem glob_of {ck : Ck} {c : CE} (k : CkOk m n ck c) {x : Str} (h : ck.glob x = true) : c.env.kindOf x = some .globalImplicit := by
  rw [k.kind]; exact eq_of_beq h
theorem chkEs_head {ck : Ck} {es : PEs} {y : Expr} {ys : List Expr} (h : chkEs ck es (y :: ys) = true) : notStar y = true := by
  cases es with
  | nil => exact (Bool.false_ne_true h).elim
  | cons a r => exact (two (two h).1).1
theorem isTT_eq {c : PC} (h : isTT c = true) : c = .tt := by
  cases c <;> first | rfl | exact (Bool.false_ne_true h).elim
theorem plain_of {e : Expr} (h : plainTest e = true) {env : Env} : isTrue e env (eval e env) = (do let v ← eval e env; standAt e.pos; holding [v] (truthy v)) := by
  cases e <;> first | rfl | exact (Bool.false_ne_true h).elim
inductive B2 (op : Operator) (A B : Expr → Bool) : Expr → Prop
  | mk (l r p) (h1 : A l = true) (h2 : B r = true) : B2 op A B (.BinOp l op r p)
theorem bin_inv {op : Operator} {e : Expr} {A B : Expr → Bool} (h : (onBin e fun l o r _ => decide (o = op) && A l && B r) = true) : B2 op A B e := by
  obtain ⟨l, o, r, p, rfl, h1⟩ := onBin_inv h
  obtain ⟨h2, h3⟩ := two h1
  obtain ⟨h4, h5⟩ := two h2
  cases of_decide_eq_true h4
  exact ⟨l, r, p, h5, h3⟩
theorem cons_of {α : Type} {xs : List α} (h : (!xs.isEmpty) = true) : ∃ y ys, xs = y :: ys := by
  cases xs with
  | nil => exact (Bool.false_ne_true h).elim
  | cons y ys => exact ⟨y, ys, rfl⟩
inductive CallE (ck : Ck) (f : Nat) (es : PEs) : Expr → Prop
  | mk (x np y ys p) (h1 : ck.fns[f]? = some x) (h2 : ck.glob x = true) (h3 : tame x = true) (h4 : chkEs ck es (y :: ys) = true) : CallE ck f es (.Call (.Name x np) (y :: ys) [] p)
theorem callE_inv {ck : Ck} {f : Nat} {es : PEs} {e : Expr} (h : chkE ck (.call f es) e = true) : CallE ck f es e := by
  obtain ⟨g, xs, ks, p, rfl, h1⟩ := onCall_inv h
  obtain ⟨x, np, rfl, h2⟩ := onName_inv h1
  obtain ⟨h3, g6⟩ := two h2
  obtain ⟨h3, g5⟩ := two h3
  obtain ⟨h3, g4⟩ := two h3
  obtain ⟨h3, g3⟩ := two h3
  obtain ⟨g1, g2⟩ := two h3
  cases nil_of g1
  obtain ⟨y, ys, rfl⟩ := cons_of g2
  exact ⟨x, np, y, ys, p, eq_of_beq g3, g4, g5, g6⟩
inductive CmpE (o : CO) (A B : Expr → Bool) : Expr → Prop
  | mk (l r p) (h1 : behindInMarks (opOf o) r = false) (h2 : A l = true) (h3 : B r = true) : CmpE o A B (.Compare l [opOf o] [r] p)
theorem cmp_inv {o : CO} {A B : Expr → Bool} {e : Expr} (h : (onCmp1 e fun l op r => decide (op = opOf o) && !behindInMarks op r && A l && B r) = true) : CmpE o A B e := by
  obtain ⟨l, op, r, p, rfl, h1⟩ := onCmp1_inv h
  obtain ⟨h2, g3⟩ := two h1
  obtain ⟨h2, g2⟩ := two h2
  obtain ⟨h2, g1⟩ := two h2
  cases of_decide_eq_true h2
  exact ⟨l, r, p, by simpa using g1, g2, g3⟩
inductive IsnE (o : CmpOp) (A : Expr → Bool) : Expr → Prop
  | mk (l k q p) (h1 : A l = true) : IsnE o A (.Compare l [o] [.Constant .none k q] p)
theorem isn_inv {o : CmpOp} {A : Expr → Bool} {e : Expr} (h : (onCmp1 e fun l op r => decide (op = o) && isNoneK r && A l) = true) : IsnE o A e := by
  obtain ⟨l, op, r, p, rfl, h1⟩ := onCmp1_inv h
  obtain ⟨h2, g2⟩ := two h1
  obtain ⟨h2, g1⟩ := two h2
  cases of_decide_eq_true h2
  obtain ⟨k, q, rfl⟩ := isNoneK_inv g1
  exact ⟨l, k, q, p, g2⟩
inductive TypE (ck : Ck) (T : String) (A : Expr → Bool) : Expr → Prop
  | mk (np l p yp q) (h1 : ck.glob (Str.ofString "type") = true) (h2 : T = "int" ∨ T = "tuple") (h3 : ck.glob (Str.ofString T) = true) (h4 : notStar l = true) (h5 : A l = true) : TypE ck T A (.Compare (.Call (.Name (Str.ofString "type") np) [l] [] p) [.Is] [.Name (Str.ofString T) yp] q)
theorem type_inv {ck : Ck} {T : String} {A : Expr → Bool} {e : Expr} (h : (onCmp1 e fun l op r => decide (op = .Is) && decide (T = "int" ∨ T = "tuple") && onName r (fun y _ => y == Str.ofString T && ck.glob y) && isCall1 ck (Str.ofString "type") l A) = true) : TypE ck T A e := by
  obtain ⟨l, op, r, p, rfl, h1⟩ := onCmp1_inv h
  obtain ⟨h2, g3⟩ := two h1
  obtain ⟨h2, g2⟩ := two h2
  obtain ⟨h2, g1⟩ := two h2
  cases of_decide_eq_true h2
  obtain ⟨y, yp, rfl, g2⟩ := onName_inv g2
  obtain ⟨g2, g4⟩ := two g2
  cases eq_of_beq g2
  obtain ⟨np, l, q, g5, g6, g7⟩ := isCall1_inv g3
  exact ⟨np, l, q, yp, p, g5, of_decide_eq_true g1, g4, g6, g7⟩
inductive CompE (ck : Ck) (x : Str) (caps : List Nat) (rng : Bool) (src : PE) (cond : PC) (elt : PE) : Expr → Prop
  | mk (elt' px it ifs sc p) (h1 : compScope ck sc x caps = true) (h2 : notSet it = true) (h3 : (rng = true ∧ isCall1 ck (Str.ofString "range") it (fun l => chkE ck src l) = true) ∨ (rng = false ∧ chkE ck src it = true))
      (h4 : (ifs = [] ∧ isTT cond = true) ∨ ∃ t, ifs = [t] ∧ chkC (compCk ck sc x caps) cond t = true) (h5 : chkE (compCk ck sc x caps) elt elt' = true) : CompE ck x caps rng src cond elt (.ListComp elt' [⟨.Name x px, it, ifs, 0⟩] sc p)
theorem comp_inv {ck : Ck} {x : Str} {caps : List Nat} {rng : Bool} {src : PE} {cond : PC} {elt : PE} {e : Expr} (h : chkE ck (.comp x caps rng src cond elt) e = true) : CompE ck x caps rng src cond elt e := by
  obtain ⟨elt', x', px, it, ifs, as, sc, p, rfl, h1⟩ := onLC_inv h
  clear h
  obtain ⟨h1, g7⟩ := two h1
  obtain ⟨h1, g6⟩ := two h1
  obtain ⟨h1, g5⟩ := two h1
  obtain ⟨h1, g4⟩ := two h1
  obtain ⟨h1, g3⟩ := two h1
  obtain ⟨g1, g2⟩ := two h1
  cases eq_of_beq g1
  cases of_decide_eq_true g2
  refine ⟨elt', px, it, ifs, sc, p, g3, g4, ?_, ?_, g7⟩
  · cases rng with
    | true => exact .inl ⟨rfl, g5⟩
    | false => exact .inr ⟨rfl, g5⟩
  · cases ifs with
    | nil => exact .inl ⟨rfl, g6⟩
    | cons t ts =>
      cases ts with
      | nil => exact .inr ⟨t, rfl, g6⟩
      | cons _ _ => exact (Bool.false_ne_true g6).elim
mutual
theorem soundE (hm : m.Ok) (hΦ : CallOk prog w m Φ n) : ∀ (pe : PE) (e : Expr) (ck : Ck) (c : CE), CkOk m n ck c → chkE ck pe e = true → SoundE prog w m Φ c pe e
  | .none, e, ck, c, k, h => by
    obtain ⟨k, p, rfl⟩ := isNoneK_inv h
    exact e_none
  | .bool b, e, ck, c, k, h => by
    obtain ⟨v, kk, p, rfl, h⟩ := onConst_inv h
    cases of_decide_eq_true h
    exact e_bool
  | .int i, e, ck, c, k, h => by
    obtain ⟨k, p, rfl⟩ := isInt_inv h
    exact e_int
  | .str x, e, ck, c, k, h => by
    obtain ⟨v, kk, p, rfl, h⟩ := onConst_inv h
    cases of_decide_eq_true h
    exact e_str
  | .var i, e, ck, c, k, h => by
    obtain ⟨x, p, rfl, h⟩ := onName_inv h
    obtain ⟨g1, g2⟩ := two h
    obtain ⟨h1, h2⟩ := tame_parts g2
    exact e_var k.env.hk (by rw [k.names]; exact eq_of_beq g1) h1 h2
  | .add a b, e, ck, c, k, h => by
    obtain ⟨l, r, p, g1, g2⟩ := bin_inv h
    exact e_add (soundE hm hΦ a _ ck c k g1) (soundE hm hΦ b _ ck c k g2)
  | .sub a b, e, ck, c, k, h => by
    obtain ⟨l, r, p, g1, g2⟩ := bin_inv h
    exact e_sub (soundE hm hΦ a _ ck c k g1) (soundE hm hΦ b _ ck c k g2)
  | .mod a b, e, ck, c, k, h => by
    obtain ⟨l, r, p, g1, g2⟩ := bin_inv h
    exact e_mod (soundE hm hΦ a _ ck c k g1) (soundE hm hΦ b _ ck c k g2)
  | .cat a b, e, ck, c, k, h => by
    obtain ⟨l, r, p, g1, g2⟩ := bin_inv h
    exact e_cat (soundE hm hΦ a _ ck c k g1) (soundE hm hΦ b _ ck c k g2)
  | .scat a b, e, ck, c, k, h => by
    obtain ⟨l, r, p, g1, g2⟩ := bin_inv h
    exact e_scat (soundE hm hΦ a _ ck c k g1) (soundE hm hΦ b _ ck c k g2)
  | .mulc j a, e, ck, c, k, h => by
    obtain ⟨l, r, p, g1, g2⟩ := bin_inv h
    obtain ⟨kk, q, rfl⟩ := isInt_inv g1
    exact e_mulc (soundE hm hΦ a _ ck c k g2)
  | .divc a j, e, ck, c, k, h => by
    obtain ⟨l, o, r, p, rfl, h⟩ := onBin_inv h
    obtain ⟨h, g2⟩ := two h
    obtain ⟨g0, g1⟩ := two h
    cases of_decide_eq_true g0
    obtain ⟨kk, q, rfl⟩ := isInt_inv g1
    exact e_divc (soundE hm hΦ a _ ck c k g2)
  | .neg a, e, ck, c, k, h => by
    obtain ⟨o, l, p, rfl, h⟩ := onUn_inv h
    obtain ⟨g0, g1⟩ := two h
    cases of_decide_eq_true g0
    exact e_neg (soundE hm hΦ a _ ck c k g1)
  | .repl a b, e, ck, c, k, h => by
    obtain ⟨l, r, p, g1, g2⟩ := bin_inv h
    obtain ⟨xs, q, rfl, g1⟩ := onList_inv g1
    obtain ⟨x, rfl, g1⟩ := onOne_inv g1
    exact e_repl (star_of (two g1).1) (soundE hm hΦ a _ ck c k (two g1).2) (soundE hm hΦ b _ ck c k g2)
  | .strOf a, e, ck, c, k, h => by
    obtain ⟨np, l, p, g1, g2, g3⟩ := isCall1_inv h
    exact e_strOf hm k.env (glob_of k g1) (star_of g2) (soundE hm hΦ a _ ck c k g3)
  | .len a, e, ck, c, k, h => by
    obtain ⟨np, l, p, g1, g2, g3⟩ := isCall1_inv h
    exact e_len hm k.env (glob_of k g1) (star_of g2) (soundE hm hΦ a _ ck c k g3)
  | .listOf a, e, ck, c, k, h => by
    obtain ⟨np, l, p, g1, g2, g3⟩ := isCall1_inv h
    exact e_listOf hm k.env (glob_of k g1) (star_of g2) (soundE hm hΦ a _ ck c k g3)
  | .dictOf a, e, ck, c, k, h => by
    obtain ⟨np, l, p, g1, g2, g3⟩ := isCall1_inv h
    exact e_dictOf hm k.env k.A.handled (glob_of k g1) (star_of g2) (soundE hm hΦ a _ ck c k g3)
  | .abs a, e, ck, c, k, h => by
    obtain ⟨np, l, p, g1, g2, g3⟩ := isCall1_inv h
    exact e_abs hm k.env (glob_of k g1) (star_of g2) (soundE hm hΦ a _ ck c k g3)
  | .sum a, e, ck, c, k, h => by
    obtain ⟨np, l, p, g1, g2, g3⟩ := isCall1_inv h
    exact e_sum hm k.env k.A.handled (glob_of k g1) (star_of g2) (soundE hm hΦ a _ ck c k g3)
  | .cmp o a b, e, ck, c, k, h => by
    obtain ⟨l, r, p, g1, g2, g3⟩ := cmp_inv h
    exact e_cmp k.A.units' g1 (soundE hm hΦ a _ ck c k g2) (soundE hm hΦ b _ ck c k g3)
  | .isN a, e, ck, c, k, h => by
    obtain ⟨l, kk, q, p, g⟩ := isn_inv h
    exact e_isN (soundE hm hΦ a _ ck c k g)
  | .notN a, e, ck, c, k, h => by
    obtain ⟨l, kk, q, p, g⟩ := isn_inv h
    exact e_notN (soundE hm hΦ a _ ck c k g)
  | .typeIs a T, e, ck, c, k, h => by
    obtain ⟨np, l, p, yp, q, g1, g2, g3, g4, g5⟩ := type_inv h
    exact e_typeIs hm k.env (glob_of k g1) g2 (glob_of k g3) (star_of g4) (soundE hm hΦ a _ ck c k g5)
  | .ite pc a b, e, ck, c, k, h => by
    obtain ⟨t, l, r, p, rfl, h⟩ := onIf_inv h
    obtain ⟨g, g3⟩ := two h
    obtain ⟨g1, g2⟩ := two g
    exact e_ite (soundC hm hΦ pc _ ck c k g1) (soundE hm hΦ a _ ck c k g2) (soundE hm hΦ b _ ck c k g3)
  | .idx a b, e, ck, c, k, h => by
    obtain ⟨l, r, p, rfl, h⟩ := onSub_inv h
    obtain ⟨g, g3⟩ := two h
    obtain ⟨g1, g2⟩ := two g
    exact e_idx (slice_of g1) (soundE hm hΦ a _ ck c k g2) (soundE hm hΦ b _ ck c k g3)
  | .last a, e, ck, c, k, h => by
    obtain ⟨l, r, p, rfl, h⟩ := onSub_inv h
    obtain ⟨g1, g2⟩ := two h
    obtain ⟨o, u, q, rfl, g1⟩ := onUn_inv g1
    obtain ⟨g0, g1⟩ := two g1
    cases of_decide_eq_true g0
    obtain ⟨kk, q2, rfl⟩ := isInt_inv g1
    exact e_last (soundE hm hΦ a _ ck c k g2)
  | .slLH a lo hi, e, ck, c, k, h => by
    obtain ⟨l, r, p, rfl, h⟩ := onSub_inv h
    obtain ⟨g, g3⟩ := two h
    obtain ⟨x, y, z, q, rfl, g⟩ := onSlice_inv g
    obtain ⟨g, g2⟩ := two g
    obtain ⟨g0, g1⟩ := two g
    cases Option.isNone_iff_eq_none.mp g0
    obtain ⟨el, rfl, g1⟩ := any_some g1
    obtain ⟨eh, rfl, g2⟩ := any_some g2
    exact e_slLH (soundE hm hΦ a _ ck c k g3) (soundE hm hΦ lo _ ck c k g1) (soundE hm hΦ hi _ ck c k g2)
  | .slH a hi, e, ck, c, k, h => by
    obtain ⟨l, r, p, rfl, h⟩ := onSub_inv h
    obtain ⟨g, g3⟩ := two h
    obtain ⟨x, y, z, q, rfl, g⟩ := onSlice_inv g
    obtain ⟨g, g2⟩ := two g
    obtain ⟨g0, g1⟩ := two g
    cases Option.isNone_iff_eq_none.mp g0
    cases Option.isNone_iff_eq_none.mp g1
    obtain ⟨eh, rfl, g2⟩ := any_some g2
    exact e_slH (soundE hm hΦ a _ ck c k g3) (soundE hm hΦ hi _ ck c k g2)
  | .slL a lo, e, ck, c, k, h => by
    obtain ⟨l, r, p, rfl, h⟩ := onSub_inv h
    obtain ⟨g, g3⟩ := two h
    obtain ⟨x, y, z, q, rfl, g⟩ := onSlice_inv g
    obtain ⟨g, g2⟩ := two g
    obtain ⟨g0, g1⟩ := two g
    cases Option.isNone_iff_eq_none.mp g0
    cases Option.isNone_iff_eq_none.mp g1
    obtain ⟨eh, rfl, g2⟩ := any_some g2
    exact e_slL (soundE hm hΦ a _ ck c k g3) (soundE hm hΦ lo _ ck c k g2)
  | .list es, e, ck, c, k, h => by
    obtain ⟨xs, p, rfl, h⟩ := onList_inv h
    exact e_list (soundEs hm hΦ es _ ck c k h)
  | .tuple es, e, ck, c, k, h => by
    obtain ⟨xs, kk, p, rfl, h⟩ := onTuple_inv h
    exact e_tuple (soundEs hm hΦ es _ ck c k h)
  | .dict0, e, ck, c, k, h => by
    obtain ⟨ks, vs, p, rfl, h⟩ := onDict_inv h
    obtain ⟨g1, g2⟩ := two h
    cases nil_of g1
    cases nil_of g2
    exact e_dict0
  | .call f es, e, ck, c, k, h => by
    obtain ⟨x, np, y, ys, p, g1, g2, g3, g4⟩ := callE_inv h
    obtain ⟨fa, hfa⟩ := k.fns f _ g1
    exact e_call hm k.env k.A hΦ hfa (glob_of k g2) (tame_parts g3).2 (star_of (chkEs_head g4)) (soundEs hm hΦ es _ ck c k g4)
  | .comp x caps rng src cond elt, e, ck, c, k, h => by
    obtain ⟨elt', px, it, ifs, sc, p, g3, g4, g5, g6, g7⟩ := comp_inv h
    have hk := comp_ok k g3
    refine e_comp k.A.handled hk k.env (set_of g4) ?_ (fun C => ?_) (fun C => soundE hm hΦ elt _ _ _ (comp_ck k hk C) g7)
    · rcases g5 with ⟨rfl, g5⟩ | ⟨rfl, g5⟩
      · obtain ⟨np, l, p2, f1, f2, f3⟩ := isCall1_inv g5
        exact .range hm k.env (glob_of k f1) (star_of f2) (soundE hm hΦ src _ ck c k f3)
      · exact .list (soundE hm hΦ src _ ck c k g5)
    · rcases g6 with ⟨rfl, g6⟩ | ⟨t, rfl, g6⟩
      · exact .inl ⟨rfl, isTT_eq g6⟩
      · exact .inr ⟨_, rfl, soundC hm hΦ cond _ _ _ (comp_ck k hk C) g6⟩
theorem soundEs (hm : m.Ok) (hΦ : CallOk prog w m Φ n) : ∀ (pes : PEs) (es : List Expr) (ck : Ck) (c : CE), CkOk m n ck c → chkEs ck pes es = true → SoundEs prog w m Φ c pes es
  | .nil, es, ck, c, k, h => by
    cases nil_of h
    exact es_nil
  | .cons a r, es, ck, c, k, h => by
    cases es with
    | nil => exact (Bool.false_ne_true h).elim
    | cons e es => exact es_cons (star_of (two (two h).1).1) (soundE hm hΦ a _ ck c k (two (two h).1).2) (soundEs hm hΦ r _ ck c k (two h).2)
theorem soundC (hm : m.Ok) (hΦ : CallOk prog w m Φ n) : ∀ (pc : PC) (e : Expr) (ck : Ck) (c : CE), CkOk m n ck c → chkC ck pc e = true → SoundC prog w m Φ c pc e
  | .tt, e, ck, c, k, h => (Bool.false_ne_true h).elim
  | .ex a, e, ck, c, k, h => by
    by_cases hc : isC a = true
    · have h2 := (two h).2
      clear h
      cases a <;> try exact (Bool.false_ne_true hc).elim
      · obtain ⟨l, r, p, g1, g2, g3⟩ := cmp_inv h2
        exact c_cmp k.A.units' g1 (soundE hm hΦ _ _ ck c k g2) (soundE hm hΦ _ _ ck c k g3)
      · obtain ⟨l, kk, q, p, g⟩ := isn_inv h2
        exact c_isN (soundE hm hΦ _ _ ck c k g)
      · obtain ⟨l, kk, q, p, g⟩ := isn_inv h2
        exact c_notN (soundE hm hΦ _ _ ck c k g)
      · obtain ⟨np, l, p, yp, q, g1, g2, g3, g4, g5⟩ := type_inv h2
        exact c_typeIs hm k.env (glob_of k g1) g2 (glob_of k g3) (star_of g4) (soundE hm hΦ _ _ ck c k g5)
    · have h1 := (two h).1
      rw [Bool.not_eq_true] at hc
      rw [hc] at h1
      exact c_plain (plain_of h1) (soundE hm hΦ a _ ck c k (two h).2)
  | .not pc, e, ck, c, k, h => by
    obtain ⟨o, l, p, rfl, h⟩ := onUn_inv h
    obtain ⟨g0, g1⟩ := two h
    cases of_decide_eq_true g0
    exact c_not (soundC hm hΦ pc _ ck c k g1)
  | .and pa pb, e, ck, c, k, h => by
    obtain ⟨o, es, p, rfl, h⟩ := onBool_inv h
    obtain ⟨g0, g⟩ := two h
    cases of_decide_eq_true g0
    cases es with
    | nil => exact (Bool.false_ne_true g).elim
    | cons l es =>
      cases es with
      | nil => exact (Bool.false_ne_true g).elim
      | cons r es =>
        cases es with
        | nil => exact c_and2 (soundC hm hΦ pa _ ck c k (two g).1) (soundC hm hΦ pb _ ck c k (two g).2)
        | cons s es => exact c_andN (soundC hm hΦ pa _ ck c k (two g).1) (soundC hm hΦ pb _ ck c k (two g).2)
  | .or pa pb, e, ck, c, k, h => by
    obtain ⟨o, es, p, rfl, h⟩ := onBool_inv h
    obtain ⟨g0, g⟩ := two h
    cases of_decide_eq_true g0
    cases es with
    | nil => exact (Bool.false_ne_true g).elim
    | cons l es =>
      cases es with
      | nil => exact (Bool.false_ne_true g).elim
      | cons r es =>
        cases es with
        | nil => exact c_or2 (soundC hm hΦ pa _ ck c k (two g).1) (soundC hm hΦ pb _ ck c k (two g).2)
        | cons s es => exact c_orN (soundC hm hΦ pa _ ck c k (two g).1) (soundC hm hΦ pb _ ck c k (two g).2)
end
end
end Mine

namespace Mine
open PySem PyProof.Rows
set_option autoImplicit false
set_option maxRecDepth 10000
section
variable {prog : Program} {w : World} {m : Mod} {Φ : Nat → List PyData → Option PyData} {n fuel : Nat}
structure CkxOk (m : Mod) (n : Nat) (ck : Ck) (c : Cx) : Prop where
  cx : CxOk m n c
  ce : ∀ W, CkOk m n ck (c.ce W)
theorem CkxOk.own {ck : Ck} {c : Cx} (k : CkxOk m n ck c) : c.own = ck.own := (k.ce []).own
theorem CkxOk.names {ck : Ck} {c : Cx} (k : CkxOk m n ck c) : c.names = ck.names := (k.ce []).names
theorem CkxOk.kind {ck : Ck} {c : Cx} (k : CkxOk m n ck c) : ∀ x, c.env.kindOf x = ck.sc.lookup x := (k.ce []).kind
theorem swaps_no {e : Expr} {t : Option Expr} {l : Nat} {env : Env} (h : notComp e = true) : swapsWith e t l env = pure false := by
  cases e <;> first | rfl | exact (Bool.false_ne_true h).elim
theorem not_own {ck : Ck} {c : Cx} (k : CkxOk m n ck c) {i : Nat} (h : (!ck.own.contains i) = true) : i ∉ c.own := by
  rw [k.own]; simpa using h
theorem is_own {ck : Ck} {c : Cx} (k : CkxOk m n ck c) {i : Nat} (h : ck.own.contains i = true) : i ∈ c.own := by
  rw [k.own]; simpa using h
theorem swaps_yes {ck : Ck} {c : Cx} (k : CkxOk m n ck c) {elt : Expr} {gens : List Comprehension} {scope : Scope} {vpos p : Pos} {y : Str} {l : Nat} (h : swapT ck y p scope vpos = true) :
    swapsWith (.ListComp elt gens scope vpos) (some (.Name y p)) l c.env = pure true := by
  simp only [swapT, Bool.and_eq_true, beq_iff_eq] at h
  have hb : c.env.blockKind = .function := by unfold Env.blockKind; rw [k.cx.hk]; rfl
  show (pure (c.env.blockKind == .function && c.env.kindOf y == some .local && p.line == vpos.line && !(scope.names.any fun (n, k) => n == y && (k == .local || k == .cell))) : Sem Bool) = pure true
  rw [hb, k.kind, h.1.1, h.1.2, h.2]
  simp
theorem five {ck : Ck} {A : Stmt → Stmt → Stmt → Stmt → Stmt → Bool} {r : PSs} {sts : List Stmt} (h : (match sts with
    | s1 :: s2 :: s3 :: s4 :: s5 :: more => A s1 s2 s3 s4 s5 && chkSs ck r more
    | _ => false) = true) : ∃ s1 s2 s3 s4 s5 more, sts = s1 :: s2 :: s3 :: s4 :: s5 :: more ∧ A s1 s2 s3 s4 s5 = true ∧ chkSs ck r more = true := by
  cases sts <;> try exact (Bool.false_ne_true h).elim
  rename_i s1 sts
  cases sts <;> try exact (Bool.false_ne_true h).elim
  rename_i s2 sts
  cases sts <;> try exact (Bool.false_ne_true h).elim
  rename_i s3 sts
  cases sts <;> try exact (Bool.false_ne_true h).elim
  rename_i s4 sts
  cases sts <;> try exact (Bool.false_ne_true h).elim
  exact ⟨_, _, _, _, _, _, rfl, (two h).1, (two h).2⟩
theorem pe_comp {a : PE} (h : a.ctorIdx = 34) : ∃ x caps rng src cond elt, a = .comp x caps rng src cond elt := PE.comp.elim (motive_1 := fun a => ∃ x caps rng src cond elt, a = .comp x caps rng src cond elt) a h fun x caps rng src cond elt => ⟨x, caps, rng, src, cond, elt, rfl⟩
theorem four_of {A : Expr → Expr → Expr → Expr → Bool} {xs : List Expr} (h : (match xs with | [a, b, c, d] => A a b c d | _ => false) = true) : ∃ a b c d, xs = [a, b, c, d] := by
  cases xs <;> try exact (Bool.false_ne_true h).elim
  rename_i a xs
  cases xs <;> try exact (Bool.false_ne_true h).elim
  rename_i b xs
  cases xs <;> try exact (Bool.false_ne_true h).elim
  rename_i c xs
  cases xs <;> try exact (Bool.false_ne_true h).elim
  rename_i d xs
  cases xs <;> try exact (Bool.false_ne_true h).elim
  exact ⟨_, _, _, _, rfl⟩
mutual
theorem soundS (hm : m.Ok) (hΦ : CallOk prog w m Φ n) : ∀ (ps : PS) (st : Stmt) (ck : Ck) (c : Cx), CkxOk m n ck c → chkS ck ps st = true → SoundS prog w m Φ fuel c ps st
  | .assign i pe, st, ck, c, k, h => by
    obtain ⟨x, p1, v, q, rfl, h1⟩ := onAsg_inv h
    clear h
    have hx := eq_of_beq (two h1).1
    replace h1 := (two h1).2
    by_cases hn : notComp v = true
    · rw [if_pos hn] at h1
      have h6 := (two h1).2
      replace h1 := (two h1).1
      refine s_assign k.cx (by rw [k.names]; exact hx) (swaps_no hn) (by rw [k.own]; exact (two h1).2) (fun ho => ?_) fun W => soundE hm hΦ pe _ ck _ (k.ce W) (two h1).1
      rcases Bool.or_eq_true_iff.mp h6 with h6 | h6
      · exact absurd ho (not_own k h6)
      · exact ⟨(two h6).1, by simpa using (two h6).2⟩
    · rw [if_neg hn] at h1
      have h5 := (two h1).2
      replace h1 := (two h1).1
      have hp := of_decide_eq_true (two h1).2
      replace h1 := (two h1).1
      have h4 := (two h1).2
      replace h1 := (two h1).1
      obtain ⟨x', caps, rng, src, cond, elt, rfl⟩ := pe_comp hp
      obtain ⟨elt', px, it, ifs, sc, p, g3, g4, g5, g6, g7⟩ := comp_inv h5
      refine s_assignComp k.cx (by rw [k.names]; exact hx) (not_own k h4) (swaps_yes k h1) (fun W => comp_ok (k.ce W) g3) (set_of g4) (fun W => ?_) (fun W C => ?_) (fun W C => soundE hm hΦ _ _ _ _ (comp_ck (k.ce W) (comp_ok (k.ce W) g3) C) g7)
      · rcases g5 with ⟨rfl, g5⟩ | ⟨rfl, g5⟩
        · obtain ⟨np, l, p2, f1, f2, f3⟩ := isCall1_inv g5
          exact .range hm (k.ce W).env (glob_of (k.ce W) f1) (star_of f2) (soundE hm hΦ _ _ ck _ (k.ce W) f3)
        · exact .list (soundE hm hΦ _ _ ck _ (k.ce W) g5)
      · rcases g6 with ⟨rfl, g6⟩ | ⟨t, rfl, g6⟩
        · exact .inl ⟨rfl, isTT_eq g6⟩
        · exact .inr ⟨_, rfl, soundC hm hΦ _ _ _ _ (comp_ck (k.ce W) (comp_ok (k.ce W) g3) C) g6⟩
  | .store i a b, st, ck, c, k, h => by
    obtain ⟨x, p, ei, q, ee, r, rfl, h⟩ := onAsgSub_inv h
    have h6 := (two h).2
    replace h := (two h).1
    have h5 := (two h).2
    replace h := (two h).1
    have h4 := (two h).2
    replace h := (two h).1
    have h3 := (two h).2
    replace h := (two h).1
    have h2 := (two h).2
    replace h := (two h).1
    have h1 := h
    clear h
    exact s_store k.cx (by rw [k.names]; exact eq_of_beq h1) (is_own k h2) (tame_parts h3) (swaps_no h4) (fun W => soundE hm hΦ a _ ck _ (k.ce W) h5) (fun W => soundE hm hΦ b _ ck _ (k.ce W) h6)
  | .append i a, st, ck, c, k, h => by
    obtain ⟨x, p, ap, apos, ee, p1, q, rfl, h⟩ := onApp_inv h
    have h8 := (two h).2
    replace h := (two h).1
    have h7 := (two h).2
    replace h := (two h).1
    have h6 := (two h).2
    replace h := (two h).1
    have h5 := (two h).2
    replace h := (two h).1
    have h4 := (two h).2
    replace h := (two h).1
    have h3 := (two h).2
    replace h := (two h).1
    have h2 := (two h).2
    replace h := (two h).1
    have h1 := h
    clear h
    cases eq_of_beq h4
    exact s_append k.cx (by rw [k.names]; exact eq_of_beq h1) (is_own k h2) (tame_parts h3) (star_of h6) (by rw [eq_of_beq h5]; simp) (by rw [k.own]; exact h7) (by unfold interactive; rw [k.cx.hk]; rfl) (fun W => soundE hm hΦ a _ ck _ (k.ce W) h8)
  | .ite pc a b, st, ck, c, k, h => by
    obtain ⟨e, xs, ys, p, rfl, h⟩ := onIfS_inv h
    exact s_ite (fun W => soundC hm hΦ pc _ ck _ (k.ce W) (two (two h).1).1) (soundSs hm hΦ a _ ck c k (two (two h).1).2) (soundSs hm hΦ b _ ck c k (two h).2)
  | .forL i it body, st, ck, c, k, h => by
    obtain ⟨t, iter, bs, os, p, rfl, h⟩ := onFor_inv h
    obtain ⟨x, q, rfl, h⟩ := onName_inv h
    have h6 := (two h).2
    replace h := (two h).1
    have h5 := (two h).2
    replace h := (two h).1
    have h4 := (two h).2
    replace h := (two h).1
    have h3 := (two h).2
    replace h := (two h).1
    have h2 := (two h).2
    replace h := (two h).1
    have h1 := (two h).2
    replace h := (two h).1
    have h0 := h
    clear h
    cases nil_of h0
    exact s_forL k.cx (by rw [k.names]; exact eq_of_beq h1) (not_own k h2) (by rw [k.own]; exact h3) (set_of h4) (fun W => .list (soundE hm hΦ it _ ck _ (k.ce W) h5)) (soundSs hm hΦ body _ ck c k h6)
  | .forR i it body, st, ck, c, k, h => by
    obtain ⟨t, iter, bs, os, p, rfl, h⟩ := onFor_inv h
    obtain ⟨x, q, rfl, h⟩ := onName_inv h
    have h5 := (two h).2
    replace h := (two h).1
    have h4 := (two h).2
    replace h := (two h).1
    have h3 := (two h).2
    replace h := (two h).1
    have h2 := (two h).2
    replace h := (two h).1
    have h1 := (two h).2
    replace h := (two h).1
    have h0 := h
    clear h
    cases nil_of h0
    obtain ⟨np, l, p2, f1, f2, f3⟩ := isCall1_inv h4
    exact s_forR k.cx (by rw [k.names]; exact eq_of_beq h1) (not_own k h2) (by rw [k.own]; exact h3) (fun _ => rfl) (fun W => .range hm (k.ce W).env (glob_of (k.ce W) f1) (star_of f2) (soundE hm hΦ it _ ck _ (k.ce W) f3)) (soundSs hm hΦ body _ ck c k h5)
  | .while pc body, st, ck, c, k, h => by
    obtain ⟨e, bs, os, p, rfl, h⟩ := onWhile_inv h
    have h2 := (two h).2
    replace h := (two h).1
    have h1 := (two h).2
    replace h := (two h).1
    have h0 := h
    clear h
    cases nil_of h0
    exact s_while (fun W => soundC hm hΦ pc _ ck _ (k.ce W) h1) (soundSs hm hΦ body _ ck c k h2)
  | .ret a, st, ck, c, k, h => by
    obtain ⟨v, p, rfl, h⟩ := onReturn_inv h
    obtain ⟨e, rfl, h⟩ := any_some h
    exact s_ret fun W => soundE hm hΦ a _ ck _ (k.ce W) h
  | .ret2 i j a b, st, ck, c, k, h => by
    obtain ⟨v, p, rfl, h⟩ := onReturn_inv h
    obtain ⟨t, rfl, h⟩ := any_some h
    obtain ⟨xs, kk, q, rfl, h⟩ := onTuple_inv h
    obtain ⟨ex, ey, e, d, rfl⟩ := four_of h
    have h11 := (two h).2
    replace h := (two h).1
    have h10 := (two h).2
    replace h := (two h).1
    have h9 := (two h).2
    replace h := (two h).1
    have h8 := (two h).2
    replace h := (two h).1
    have h5 := (two h).2
    replace h := (two h).1
    have h4 := (two h).2
    replace h := (two h).1
    have h3 := (two h).2
    replace h := (two h).1
    have g2 := (two h).2
    replace h := (two h).1
    have g1 := h
    clear h
    obtain ⟨x, px, rfl, g1⟩ := onName_inv g1
    obtain ⟨y, py, rfl, g2⟩ := onName_inv g2
    exact s_ret2 k.cx (by rw [k.names]; exact eq_of_beq (two g1).1) (by rw [k.names]; exact eq_of_beq (two g2).1) (of_decide_eq_true h3) (is_own k h4) (is_own k h5) (tame_parts (two g1).2) (tame_parts (two g2).2) (star_of h8) (star_of h9) (fun W => soundE hm hΦ a _ ck _ (k.ce W) h10) (fun W => soundE hm hΦ b _ ck _ (k.ce W) h11)
  | .stuck, st, ck, c, k, h => fun σ r s W hd => by simp [dS_stuck] at hd
theorem soundSs (hm : m.Ok) (hΦ : CallOk prog w m Φ n) : ∀ (ps : PSs) (sts : List Stmt) (ck : Ck) (c : Cx), CkxOk m n ck c → chkSs ck ps sts = true → SoundSs prog w m Φ fuel c ps sts
  | .nil, sts, ck, c, k, h => by
    cases nil_of h
    exact ss_nil
  | .cons s r, sts, ck, c, k, h => by
    cases sts with
    | nil => exact (Bool.false_ne_true h).elim
    | cons st sts => exact ss_cons (soundS hm hΦ s _ ck c k (two h).1) (soundSs hm hΦ r _ ck c k (two h).2)
  | .unpA f es ist ivn ivf ivt ivm r, sts, ck, c, k, h => by
    obtain ⟨s1, s2, s3, s4, s5, more, rfl, h2, g24⟩ := five h
    clear h
    have hl := (two h2).2
    replace h2 := (two h2).1
    obtain ⟨⟨g7, g8, g9, g10, g16, g4⟩, g20, g22⟩ : (_ ∧ _ ∧ _ ∧ _ ∧ _ ∧ _) ∧ _ ∧ _ := ⟨of_decide_eq_true (two (two h2).2).1, of_decide_eq_true (two (two h2).2).2⟩
    replace h2 := (two h2).1
    obtain ⟨p15, p16, k4, p17, p18, p19, rfl⟩ := isPick_inv (two h2).2
    replace h2 := (two h2).1
    obtain ⟨p10, p11, k3, p12, p13, p14, rfl⟩ := isPick_inv (two h2).2
    replace h2 := (two h2).1
    obtain ⟨p5, p6, k2, p7, p8, p9, rfl⟩ := isPick_inv (two h2).2
    replace h2 := (two h2).1
    obtain ⟨y, p1, v, p4, rfl, h3⟩ := onAsg_inv h2
    clear h2
    cases eq_of_beq (two h3).1
    obtain ⟨fx, p2, e, rest, p3, g1, g2, g3, g6⟩ := callE_inv (two h3).2
    clear h3
    obtain ⟨x, p20, ap, apos, e5, p21, p22, rfl, h⟩ := onApp_inv hl
    clear hl
    have g21 := (two h).2
    replace h := (two h).1
    have g19 := (two h).2
    replace h := (two h).1
    have gap := (two h).2
    replace h := (two h).1
    have g17 := (two h).2
    replace h := (two h).1
    have gz := (two h).2
    replace h := (two h).1
    have g11 := h
    clear h
    obtain ⟨p23, k5, p24, p25, rfl⟩ := isSub_inv gz
    cases eq_of_beq gap
    obtain ⟨fa, hfa⟩ := (k.ce []).fns f _ g1
    have nm : ∀ {i : Nat} {x : Str}, ck.names[i]? = some x → c.names[i]? = some x := fun e => by rw [k.names]; exact e
    exact ss_unpA hm k.cx k.cx.A hΦ hfa (glob_of (k.ce []) g2) (tame_parts g3).2 (star_of (chkEs_head g6)) (fun W => soundEs hm hΦ es _ ck _ (k.ce W) g6) (by rw [← (k.ce []).twos]; exact g4) (nm g7) (nm g8) (nm g9) (nm g10) (nm (eq_of_beq g11)) (tame_parts g16) (tame_parts g17)
      (by rw [eq_of_beq g19]; simp) (by unfold interactive; rw [k.cx.hk]; rfl) g20 (of_decide_eq_true g21).1 (by rw [k.own]; exact g22) (by rw [k.own]; exact (of_decide_eq_true g21).2) (soundSs hm hΦ r _ ck c k g24)
  | .unpS f es ist ivn ivf ivt pi r, sts, ck, c, k, h => by
    obtain ⟨s1, s2, s3, s4, s5, more, rfl, h2, g24⟩ := five h
    clear h
    have hl := (two h2).2
    replace h2 := (two h2).1
    obtain ⟨⟨g7, g8, g9, g10, g16, g4⟩, g20, g22⟩ : (_ ∧ _ ∧ _ ∧ _ ∧ _ ∧ _) ∧ _ ∧ _ := ⟨of_decide_eq_true (two (two h2).2).1, of_decide_eq_true (two (two h2).2).2⟩
    replace h2 := (two h2).1
    obtain ⟨p15, p16, k4, p17, p18, p19, rfl⟩ := isPick_inv (two h2).2
    replace h2 := (two h2).1
    obtain ⟨p10, p11, k3, p12, p13, p14, rfl⟩ := isPick_inv (two h2).2
    replace h2 := (two h2).1
    obtain ⟨p5, p6, k2, p7, p8, p9, rfl⟩ := isPick_inv (two h2).2
    replace h2 := (two h2).1
    obtain ⟨y, p1, v, p4, rfl, h3⟩ := onAsg_inv h2
    clear h2
    cases eq_of_beq (two h3).1
    obtain ⟨fx, p2, e, rest, p3, g1, g2, g3, g6⟩ := callE_inv (two h3).2
    clear h3
    obtain ⟨x, p20, ei, p21, v, p22, rfl, h⟩ := onAsgSub_inv hl
    clear hl
    have g23 := (two h).2
    replace h := (two h).1
    have g17 := (two h).2
    replace h := (two h).1
    have gz := (two h).2
    replace h := (two h).1
    have gx := h
    clear h
    obtain ⟨p23, k5, p24, p25, rfl⟩ := isSub_inv gz
    cases eq_of_beq gx
    obtain ⟨fa, hfa⟩ := (k.ce []).fns f _ g1
    have nm : ∀ {i : Nat} {x : Str}, ck.names[i]? = some x → c.names[i]? = some x := fun e => by rw [k.names]; exact e
    exact ss_unpS hm k.cx k.cx.A hΦ hfa (glob_of (k.ce []) g2) (tame_parts g3).2 (star_of (chkEs_head g6)) (fun W => soundEs hm hΦ es _ ck _ (k.ce W) g6) (by rw [← (k.ce []).twos]; exact g4) (nm g7) (nm g8) (nm g9) (nm g10) (tame_parts g16) (tame_parts g17)
      g20 (by rw [k.own]; exact g22) (fun W => soundE hm hΦ pi _ ck _ (k.ce W) g23) (soundSs hm hΦ r _ ck c k g24)
end
end
end Mine

namespace Mine
open PySem PyProof.Rows
set_option autoImplicit false
set_option maxRecDepth 10000
noncomputable def spCk (fns : List Str) (twos : List Nat) (sp : FnSpec) : Ck := { names := sp.names, sc := sp.scope.names, own := sp.fd.own, fns := fns, twos := twos, nest := true }
noncomputable def spOk0 (sp : FnSpec) : Bool :=
  sp.scope.kind == .function && !sp.scope.isCoroutine && !sp.scope.isGenerator && sp.names.length == sp.fd.nv && decide (sp.fd.np ≤ sp.fd.nv) && decide sp.names.Nodup &&
  sp.names.all (fun x => sp.scope.names.lookup x == some .local || sp.scope.names.lookup x == some .cell) && decide ((cellsFrom 0 sp.scope.names []).map (·.1)).Nodup && sp.fd.own.all (fun i => decide (sp.fd.np ≤ i))
noncomputable def proOk (names : List Str) (sc : List (Str × NameKind)) (i : Nat) (st : Stmt) : Bool := onAsg st fun x _ v => onCall v fun f xs ks _ => onName f fun l _ => onOne xs fun a => onName a fun y _ => ks.isEmpty && names[i]? == some x && x == y && l == Str.ofString "list" && sc.lookup l == some .globalImplicit && tame x
theorem proOk_inv {names : List Str} {sc : List (Str × NameKind)} {i : Nat} {st : Stmt} (h : proOk names sc i st = true) : ∃ x p p1 p2 p3 q, st = .Assign [.Name x p] (.Call (.Name (Str.ofString "list") p1) [.Name x p2] [] p3) q ∧ names[i]? = some x ∧ sc.lookup (Str.ofString "list") = some .globalImplicit ∧ tame x = true := by
  obtain ⟨x, p, v, q, rfl, i1⟩ := onAsg_inv h
  clear h
  obtain ⟨f, xs, ks, p3, rfl, i2⟩ := onCall_inv i1
  clear i1
  obtain ⟨l, p1, rfl, i3⟩ := onName_inv i2
  clear i2
  obtain ⟨a, rfl, i4⟩ := onOne_inv i3
  clear i3
  obtain ⟨y, p2, rfl, i5⟩ := onName_inv i4
  clear i4
  simp only [Bool.and_eq_true, beq_iff_eq] at i5
  obtain ⟨⟨⟨⟨⟨h0, h1⟩, rfl⟩, rfl⟩, h4⟩, h5⟩ := i5
  cases nil_of h0
  exact ⟨x, p, p1, p2, p3, q, rfl, h1, h4, h5⟩
noncomputable def proRest (names : List Str) (sc : List (Str × NameKind)) : List Nat → List Stmt → Option (List Stmt)
  | [], sts => some sts
  | i :: r, sts => match sts with
    | st :: sts => if proOk names sc i st then proRest names sc r sts else none
    | [] => none
noncomputable def FnSpec.base (sp : FnSpec) : FnSpec := { sp with fd := { sp.fd with own := sp.fd.own.drop sp.fd.pro.length } }
noncomputable def spOk (fns : List Str) (twos : List Nat) (f : Nat) (sp : FnSpec) : Bool := spOk0 sp.base && decide (sp.fd.own = sp.fd.pro.reverse ++ sp.fd.own.drop sp.fd.pro.length) && decide (sp.fd.pro.Nodup ∧ ∀ i ∈ sp.fd.pro, i ∉ sp.fd.own.drop sp.fd.pro.length) &&
  (match proRest sp.names sp.scope.names sp.fd.pro sp.body with | some rest => chkSs (spCk fns twos sp) sp.fd.body rest | none => false) && (!twos.contains f || sp.fd.body.two)
theorem bindL_get {kindOf : Str → Option NameKind} {x : Str} {v : Value} (hk : kindOf x = some .local) : ∀ (xs : List Str) (vs : List Value) (m : Str → Option Value), xs.Nodup → (x, v) ∈ xs.zip vs → bindL kindOf (xs.zip vs) m x = some v := by
  intro xs
  induction xs with
  | nil => intro vs m _ h; simp at h
  | cons y xs ih =>
    intro vs m nd h
    cases vs with
    | nil => simp at h
    | cons u vs =>
      rw [List.nodup_cons] at nd
      simp only [List.zip_cons_cons] at h ⊢
      unfold bindL
      rcases List.mem_cons.mp h with e | h
      · cases e
        rw [if_pos hk]
        have : ∀ (zs : List Str) (us : List Value) (m : Str → Option Value), x ∉ zs → bindL kindOf (zs.zip us) m x = m x := by
          intro zs
          induction zs with
          | nil => intro us m _; rfl
          | cons z zs ih =>
            intro us m hz
            cases us with
            | nil => rfl
            | cons u' us =>
              simp only [List.zip_cons_cons]
              unfold bindL
              rw [ih us _ (fun q => hz (.tail _ q))]
              split
              · exact if_neg (fun (q : x = z) => hz (by rw [q]; exact .head _))
              · rfl
        rw [this xs vs _ nd.1, if_pos rfl]
      · exact ih vs _ nd.2 h
theorem bindC_get {kindOf : Str → Option NameKind} {x : Str} {v : Value} (hk : kindOf x = some .cell) : ∀ (xs : List Str) (vs : List Value) (m : Str → Option Value), xs.Nodup → (x, v) ∈ xs.zip vs → bindC kindOf (xs.zip vs) m x = some v := by
  intro xs
  have hk' : ¬ kindOf x = some .local := by rw [hk]; decide
  induction xs with
  | nil => intro vs m _ h; simp at h
  | cons y xs ih =>
    intro vs m nd h
    cases vs with
    | nil => simp at h
    | cons u vs =>
      rw [List.nodup_cons] at nd
      simp only [List.zip_cons_cons] at h ⊢
      unfold bindC
      rcases List.mem_cons.mp h with e | h
      · cases e
        rw [if_neg hk']
        have : ∀ (zs : List Str) (us : List Value) (m : Str → Option Value), x ∉ zs → bindC kindOf (zs.zip us) m x = m x := by
          intro zs
          induction zs with
          | nil => intro us m _; rfl
          | cons z zs ih =>
            intro us m hz
            cases us with
            | nil => rfl
            | cons u' us =>
              simp only [List.zip_cons_cons]
              unfold bindC
              rw [ih us _ (fun q => hz (.tail _ q))]
              split
              · rfl
              · exact if_neg (fun (q : x = z) => hz (by rw [q]; exact .head _))
        rw [this xs vs _ nd.1, if_pos rfl]
      · exact ih vs _ nd.2 h
theorem AOk.deeper {n : Nat} {A : Around} (h : AOk (n + 1) A) (env : Env) : AOk n (A.deeper env) where
  handled := h.handled
  depth := by have := h.depth; show A.depth + 1 + n < recursionLimit; lia
  units := by have := h.units; show A.units + 3 + 20 * n + 200 < cLine; lia
theorem nodup_take {l : List Str} (h : l.Nodup) (k : Nat) : (l.take k).Nodup := h.sublist (List.take_sublist _ _)
section
variable {prog : Program} {w : World} {m : Mod} {n : Nat}
noncomputable def fnCx (A : Around) (fdd : FuncData) (s : Shared) (a : Addr) (sp : FnSpec) (fp : List Addr) : Cx :=
  { A := A.deeper (callEnvC fdd s.heap.objs.size a), env := callEnvC fdd s.heap.objs.size a, names := sp.names, own := sp.fd.own, h0 := s.heap, args := fp }
theorem enter_fn {A : Around} (hA : AOk (n + 1) A) {sp : FnSpec} (hsp : spOk0 sp = true) {s : Shared} {a : Addr} {vs : List Value} {xs : List PyData} {fp : List Addr} (hmd : m.In s.heap) (hat : FnAt s.heap a sp) (hr : Rds s.heap vs xs fp) (hlen : xs.length = sp.fd.np)
    {R : Result → Shared → Prop}
    (h : ∀ fdd s₁, (∃ o, s.heap.get? a = some o ∧ o.data = .func fdd) → fdd.scope = sp.scope → Keeps s s₁ → CxOk m n (fnCx A fdd s a sp fp) → (∀ fns twos, (∀ (f : Nat) x, fns[f]? = some x → ∃ a, m.fns[f]? = some (x, a)) → twos = m.twos → CkxOk m n (spCk fns twos sp) (fnCx A fdd s a sp fp)) → Sat m (fnCx A fdd s a sp fp) (startStore sp.fd xs) [] s₁ →
      wpAny (model prog w) (A.deeper (callEnvC fdd s.heap.objs.size a)) (execs sp.body (callEnvC fdd s.heap.objs.size a)) (fun f s' => R (.ok (.ret (match f with | .ret v => v | _ => .none))) s')
        (fun e s' => wpAny (model prog w) (A.deeper (callEnvC fdd s.heap.objs.size a)) (leaving (callEnvC fdd s.heap.objs.size a) e) (fun _ s'' => R (.error e) s'') (fun e' s'' => R (.error e') s'') s') s₁) :
    codeAny (model prog w) A (.call (.ref a) ⟨vs, []⟩) R s := by
  obtain ⟨o, fdd, ho, hdata, hbody, hscope, hgl, hbu, hclo, hcd, hbind⟩ := hat.ex
  simp only [spOk0, Bool.and_eq_true, beq_iff_eq, Bool.not_eq_true', decide_eq_true_eq, List.all_eq_true, Bool.or_eq_true] at hsp
  obtain ⟨⟨⟨⟨⟨⟨⟨⟨k1, k2⟩, k3⟩, k4⟩, k5⟩, k6⟩, k7⟩, k8⟩, k9⟩ := hsp
  have hvl : vs.length = sp.fd.np := by rw [hr.length]; exact hlen
  have hzip : ∀ p ∈ (sp.names.take sp.fd.np).zip vs, p.1 ∈ sp.names := fun p hp => List.mem_of_mem_take (List.of_mem_zip hp).1
  have hsn : ∀ x, (callEnvC fdd s.heap.objs.size a).kindOf x = sp.scope.names.lookup x := fun x => by show fdd.scope.names.lookup x = _; rw [hscope]
  have hcells : (callEnvC fdd s.heap.objs.size a).cells = cellsFrom (s.heap.objs.size + 1) sp.scope.names [] := by show cellsFrom (s.heap.objs.size + 1) fdd.scope.names [] = _; rw [hscope]
  refine codeAny_call_cells (binds := (sp.names.take sp.fd.np).zip vs) (by have := hA.depth; lia) ho hdata hmd.nolimit hcd hbody (hbind vs hvl) hclo ?_ (fun s₁ inC => ?_) (by rw [hscope]; exact k2) (by rw [hscope]; exact k3) (by rw [hscope]; exact k1)
  · intro x hx
    rw [hscope]
    rcases k7 x.1 (hzip x hx) with q | q
    · exact .inl q
    · exact .inr ⟨q, PySem.W.cellsFrom_some _ _ _ (.inl q)⟩
  · obtain ⟨h₁, tk, e₁, kp⟩ := inC.done
    have kk : Keeps s s₁ := ⟨h₁, tk, e₁, kp⟩
    have hLn : s.heap.get? s.heap.objs.size = none := size_fresh _
    have hcn : ∀ p ∈ (callEnvC fdd s.heap.objs.size a).cells, s.heap.get? p.2 = none ∧ p.2 ≠ s.heap.objs.size := fun p hp => by
      have := inC.above p.1 p.2 hp
      refine ⟨?_, Nat.ne_of_gt this⟩
      cases e : s.heap.get? p.2 with
      | none => rfl
      | some o => exact absurd (Heap.lt_size e) (Nat.not_lt.mpr (Nat.le_of_lt this))
    have hnew : ∀ b ∈ (fnCx A fdd s a sp fp).fixed, s.heap.get? b = none := by
      intro b hb
      rcases List.mem_cons.mp hb with rfl | hb
      · exact hLn
      · obtain ⟨p, hp, rfl⟩ := List.mem_map.mp hb
        exact (hcn p hp).1
    have hcx : CxOk m n (fnCx A fdd s a sp fp) := by
      refine ⟨hmd, hA.deeper _, by show fdd.scope.kind = _; rw [hscope]; exact k1, hgl, hbu, k6, fun x hx => ?_, inC.apart, fun p hp => (hcn p hp).2, hnew⟩
      rcases k7 x hx with q | q
      · exact .inl ((hsn x).trans q)
      · exact .inr ⟨(hsn x).trans q, by show (List.lookup x (callEnvC fdd s.heap.objs.size a).cells).isSome = true; rw [hcells]; exact PySem.W.cellsFrom_some _ _ _ (.inl q)⟩
    have hck : ∀ fns twos, (∀ (f : Nat) x, fns[f]? = some x → ∃ a, m.fns[f]? = some (x, a)) → twos = m.twos → CkxOk m n (spCk fns twos sp) (fnCx A fdd s a sp fp) := by
      intro fns twos hf ht
      refine ⟨hcx, fun W => ⟨rfl, hsn, hcx.envOk W, hcx.A, rfl, hf, ht, fun _ y hy => ?_⟩⟩
      have hy' : sp.scope.names.lookup y = some .cell := (hsn y).symm.trans hy
      show (List.lookup y (callEnvC fdd s.heap.objs.size a).cells).isSome = true
      rw [hcells]; exact PySem.W.cellsFrom_some _ _ _ (.inl hy')
    refine h fdd s₁ ⟨o, ho, hdata⟩ hscope kk hcx hck ?_
    have hcellAt : ∀ p ∈ (callEnvC fdd s.heap.objs.size a).cells, ∃ v, s₁.heap.IsCell p.2 v := by
      intro p hp
      refine ⟨_, inC.cell p.1 p.2 ?_⟩
      rw [hcells] at hp ⊢
      exact PyProof.Rows.lookup_of_mem_nodup (PyProof.Rows.cellsFrom_names sp.scope.names 0 (s.heap.objs.size + 1) [] [] rfl ▸ k8) hp
    have hfix : ∀ b ∈ (fnCx A fdd s a sp fp).fixed, ∃ o, s₁.heap.get? b = some o := by
      intro b hb
      rcases List.mem_cons.mp hb with rfl | hb
      · obtain ⟨o, _, _, e, _⟩ := inC.toInCall.ns; exact ⟨o, e⟩
      · obtain ⟨p, hp, rfl⟩ := List.mem_map.mp hb
        obtain ⟨_, o, e, _⟩ := hcellAt p hp; exact ⟨o, e⟩
    have hget : ∀ (i : Nat) d, Store.get (startStore sp.fd xs) i = some d → xs[i]? = some d := by
      intro i d e
      unfold startStore Store.get at e
      by_cases hi : i < xs.length
      · rw [List.getElem?_append_left (by simpa using hi), List.getElem?_map] at e
        cases q : xs[i]? with
        | none => rw [q] at e; simp at e
        | some d' => rw [q] at e; simpa using e
      · rw [List.getElem?_append_right (by simpa using hi), List.getElem?_replicate] at e
        split at e <;> simp at e
    refine ⟨?_, ⟨hmd.keeps (Keeps.keep kk), fun b e => ⟨⟨fun q => ?_, .inl (none_of_keep (Keeps.keep kk) e)⟩, fun q => (nomatch q)⟩, fun i d e => ?_⟩, ⟨_, inC.toInCall.ns⟩, hcellAt, (Keeps.keep kk), fun b q => (nomatch q), ?_⟩
    · show (startStore sp.fd xs).length = sp.names.length
      unfold startStore
      simp only [List.length_append, List.length_map, List.length_replicate]
      lia
    · obtain ⟨o, eo⟩ := hfix b q; rw [e] at eo; cases eo
    · have hx := hget i d e
      obtain ⟨v, fp', e1, e2, e3⟩ := hr.get hx
      have hil : i < sp.fd.np := by rw [← hlen]; exact (List.getElem?_eq_some_iff.mp hx).1
      have hnl : i < sp.names.length := by lia
      have hxn : sp.names[i]? = some sp.names[i] := List.getElem?_eq_getElem hnl
      have hmem : (sp.names[i], v) ∈ (sp.names.take sp.fd.np).zip vs := by
        have : ((sp.names.take sp.fd.np).zip vs)[i]? = some (sp.names[i], v) := by
          rw [List.getElem?_zip_eq_some]
          exact ⟨by rw [List.getElem?_take, if_pos hil]; exact hxn, e1⟩
        exact List.mem_of_getElem? this
      refine ⟨sp.names[i], v, fp', hxn, ?_, e2.keeps (Keeps.keep kk), fun b hb => ⟨fun q => ?_, .inr (e3 b hb)⟩, fun _ _ _ q => (nomatch q), fun q => ?_⟩
      · rcases k7 sp.names[i] (List.getElem_mem hnl) with q | q
        · exact .inl ⟨(hsn _).trans q, _, inC.toInCall.ns, bindL_get ((hsn _).trans q) _ _ _ (nodup_take k6 _) hmem⟩
        · have hs := PySem.W.cellsFrom_some (x := sp.names[i]) sp.scope.names (s.heap.objs.size + 1) [] (.inl q)
          obtain ⟨cc, hcc⟩ := Option.isSome_iff_exists.mp hs
          have hcc' : (callEnvC fdd s.heap.objs.size a).cells.lookup sp.names[i] = some cc := by rw [hcells]; exact hcc
          refine .inr ⟨.inl ((hsn _).trans q), cc, hcc', ?_⟩
          have := inC.cell sp.names[i] cc hcc'
          rw [bindC_get ((hsn _).trans q) _ _ _ (nodup_take k6 _) hmem] at this
          exact this
      · obtain ⟨o, eo⟩ := hr.dom b (e3 b hb); rw [hnew b q] at eo; cases eo
      · have := k9 i q; lia
    · intro i hi j hj hij d d' e
      have := k9 i hi
      have hx := hget i d e
      have hil : i < sp.fd.np := by rw [← hlen]; exact (List.getElem?_eq_some_iff.mp hx).1
      lia
theorem set_same (σ : Store) {i : Nat} {d : PyData} (h : σ.get i = some d) : List.set σ i (some d) = σ := by
  unfold Store.get at h
  cases e : σ[i]? with
  | none => rw [e] at h; cases h
  | some x =>
    rw [e] at h
    have hx : x = some d := by simpa using h
    subst hx
    obtain ⟨hl, he⟩ := List.getElem?_eq_some_iff.mp e
    rw [← he]; exact List.set_getElem_self hl
theorem cxOk_own {c : Cx} (k : CxOk m n c) (o : List Nat) : CxOk m n { c with own := o } := ⟨k.md, k.A, k.hk, k.hg, k.hb, k.nd, k.kind, k.apart, k.off, k.new⟩
theorem pro_run (hm : m.Ok) {names : List Str} {sc : List (Str × NameKind)} : ∀ (pro : List Nat) (sts rest : List Stmt) (c : Cx) (σ : Store) (W : List Addr) (s : Shared) (Q : Flow → Shared → Prop) (E : Value → Shared → Prop), CxOk m n c → c.names = names → (∀ x, c.env.kindOf x = sc.lookup x) →
    proRest names sc pro sts = some rest → pro.Nodup → (∀ i ∈ pro, i ∉ c.own) → (∀ i ∈ pro, ∃ xs, σ.get i = some (.list xs) ∧ xs.length ≤ lim) → Sat m c σ W s →
    (∀ s' W', Sat m { c with own := pro.reverse ++ c.own } σ W' s' → Step c W s s' W' → wpAny (model prog w) c.A (execs rest c.env) Q E s') → wpAny (model prog w) c.A (execs sts c.env) Q E s
  | [], sts, rest, c, σ, W, s, Q, E, k, hn, hk, hp, nd, ho, hx, S, h => by
    simp only [proRest, Option.some.injEq] at hp; subst hp
    exact h s W S (Step.rfl' S)
  | i :: pro, sts, rest, c, σ, W, s, Q, E, k, hn, hk, hp, nd, ho, hx, S, h => by
    cases sts with
    | nil => exact (nn hp).elim
    | cons st0 sts =>
      by_cases hc0 : proOk names sc i st0 = true
      · replace hp : proRest names sc pro sts = some rest := by
          have hp' : (if proOk names sc i st0 = true then proRest names sc pro sts else none) = some rest := hp
          rw [if_pos hc0] at hp'; exact hp'
        obtain ⟨x, _, _, _, _, _, rfl, h1, h4, h5⟩ := proOk_inv hc0
        obtain ⟨t1, t2⟩ := tame_parts h5
        obtain ⟨xs, hxs, hlen⟩ := hx i (.head _)
        rw [List.nodup_cons] at nd
        have hi := (congrArg (fun l : List Str => l[i]?) hn).trans h1
        have hden : denE (fun _ _ => none) (.listOf (.var i)) σ = some (.list xs) := by
          exact via hxs (if_pos hlen)
        refine wpAny_execs_cons (wpAny_Assign_Name (ev1 (c := c.ce W) (Φ := fun _ _ => none) (a := .listOf (.var i)) (e_listOf hm (k.envOk W) ((hk _).trans h4) (by intro _ _ q; cases q) (e_var k.hk hi t1 t2)) hden S.e fun v s₁ fp o S₁ => ?_) rfl)
        have sm : ∃ h tk, s₁ = { s with heap := h, toks := tk } := by obtain ⟨h, tk, e, _⟩ := o.kp; exact ⟨h, tk, e⟩
        refine store_var' k S o.kp (List.mem_of_getElem? hi) fun h' tk st kp => ?_
        have r' : Rd h' v (.list xs) fp := o.rd.at fun a ha ob q => kp a ob (o.u a ha).1 q
        obtain ⟨b, as, rfl, rfl, hb, hba⟩ := o.tf rfl
        have := S.addOwn k sm hi (tk := tk) r' o.u st (ho i (.head _)) hb (fun a ha => o.cl rfl a (.tail _ ha)) hba
        rw [set_same σ hxs] at this
        refine pro_run hm pro _ rest { c with own := i :: c.own } σ (b :: W) _ Q E (cxOk_own k _) hn hk hp nd.2 (fun j hj q => ?_) (fun j hj => hx j (.tail _ hj)) this.1 fun s' W' S' st' => ?_
        · rcases List.mem_cons.mp q with rfl | q
          · exact nd.1 hj
          · exact ho j (.tail _ hj) q
        · have st'' : Step c (b :: W) _ s' W' := ⟨st'.same, st'.keep, st'.grow, st'.fix⟩
          refine h s' W' ?_ (this.2.trans st'')
          have e : (i :: pro).reverse ++ c.own = pro.reverse ++ (i :: c.own) := by simp
          rw [e]; exact S'
      · have hp' : (if proOk names sc i st0 = true then proRest names sc pro sts else none) = some rest := hp
        rw [if_neg hc0] at hp'; exact (nn hp').elim
structure TabOk (m : Mod) (fns : List Str) : Prop where
  fn : ∀ (f : Nat) x, fns[f]? = some x → ∃ a, m.fns[f]? = some (x, a)
  ok : ∀ (f : Nat) sp, m.specs[f]? = some sp → spOk fns m.twos f sp = true
theorem body_run (hm : m.Ok) {fns : List Str} {twos : List Nat} (hfn : ∀ (f : Nat) x, fns[f]? = some x → ∃ a, m.fns[f]? = some (x, a)) (htw : twos = m.twos) {A : Around} (hA : AOk (n + 1) A) {sp : FnSpec} {f : Nat} (hok : spOk fns twos f sp = true) {s : Shared} {a : Addr} {vs : List Value} {xs : List PyData} {fp : List Addr} (hmd : m.In s.heap) (hat : FnAt s.heap a sp) (hr : Rds s.heap vs xs fp) (hlen : xs.length = sp.fd.np)
    (hpro : sp.fd.pro.all (fun i => match xs[i]? with | some (.list xs) => decide (xs.length ≤ lim) | _ => false) = true) {R : Result → Shared → Prop}
    (h : ∀ fdd s₁ W₁ rest, fdd.scope = sp.scope → proRest sp.names sp.scope.names sp.fd.pro sp.body = some rest → CkxOk m n (spCk fns twos sp) (fnCx A fdd s a sp fp) → Sat m (fnCx A fdd s a sp fp) (startStore sp.fd xs) W₁ s₁ →
      (∃ h tk, s₁ = { s with heap := h, toks := tk }) → (∀ b o, s.heap.get? b = some o → s₁.heap.get? b = some o ∧ b ∉ (fnCx A fdd s a sp fp).fixed ∧ b ∉ W₁) →
      wpAny (model prog w) (A.deeper (callEnvC fdd s.heap.objs.size a)) (execs rest (callEnvC fdd s.heap.objs.size a)) (fun f s' => R (.ok (.ret (match f with | .ret v => v | _ => .none))) s')
        (fun e s' => wpAny (model prog w) (A.deeper (callEnvC fdd s.heap.objs.size a)) (leaving (callEnvC fdd s.heap.objs.size a) e) (fun _ s'' => R (.error e) s'') (fun e' s'' => R (.error e') s'') s') s₁) :
    codeAny (model prog w) A (.call (.ref a) ⟨vs, []⟩) R s := by
  simp only [spOk, Bool.and_eq_true, decide_eq_true_eq] at hok
  obtain ⟨⟨⟨⟨h0, hown⟩, hnd⟩, hc⟩, h2⟩ := hok
  split at hc
  · rename_i rest hrest
    have hat' : FnAt s.heap a sp.base := let ⟨o, fd, h1, h2, h3, h4, h5, h6, h7, h8, h9⟩ := hat.ex; ⟨⟨o, fd, h1, h2, h3, h4, h5, h6, h7, h8, h9⟩⟩
    refine enter_fn (n := n) hA h0 hmd hat' hr hlen fun fdd s₁ _ hsc kk hcx hck S => ?_
    have hck' := hck fns twos hfn htw
    have hstart : startStore sp.base.fd xs = startStore sp.fd xs := rfl
    have hget : ∀ i ∈ sp.fd.pro, ∃ ys, Store.get (startStore sp.fd xs) i = some (.list ys) ∧ ys.length ≤ lim := by
      intro i hi
      have := List.all_eq_true.mp hpro i hi
      split at this
      · rename_i ys hy
        refine ⟨ys, ?_, of_decide_eq_true this⟩
        have hil : i < xs.length := (List.getElem?_eq_some_iff.mp hy).1
        unfold startStore Store.get
        rw [List.getElem?_append_left (by simpa using hil), List.getElem?_map, hy]; rfl
      · cases this
    refine pro_run hm (n := n) sp.fd.pro sp.body rest (fnCx A fdd s a sp.base fp) (startStore sp.fd xs) [] s₁ _ _ hcx rfl hck'.kind hrest hnd.1 hnd.2 hget S fun s' W' S' st' => ?_
    have ec : ({ fnCx A fdd s a sp.base fp with own := sp.fd.pro.reverse ++ (fnCx A fdd s a sp.base fp).own } : Cx) = fnCx A fdd s a sp fp := by
      show ({ fnCx A fdd s a sp.base fp with own := sp.fd.pro.reverse ++ sp.fd.own.drop sp.fd.pro.length } : Cx) = _
      rw [← hown]; rfl
    rw [ec] at S'
    refine h fdd s' W' rest hsc hrest ?_ S' ?_ ?_
    · have hcx' := cxOk_own hcx (sp.fd.pro.reverse ++ (fnCx A fdd s a sp.base fp).own)
      rw [ec] at hcx'
      exact ⟨hcx', fun W => ⟨rfl, (hck'.ce W).kind, hcx'.envOk W, hcx'.A, rfl, hfn, htw, (hck'.ce W).cells⟩⟩
    · obtain ⟨h1, t1, rfl⟩ := st'.same
      obtain ⟨h2, t2, rfl, _⟩ := kk
      exact ⟨h1, t1, rfl⟩
    · intro b o eb
      have hbf : b ∉ (fnCx A fdd s a sp.base fp).fixed := fun q => by have z : s.heap.get? b = none := hcx.new b q; rw [z] at eb; cases eb
      refine ⟨st'.keep b o hbf (fun q => (nomatch q)) (Keeps.keep kk b o eb), hbf, fun q => ?_⟩
      have z : s.heap.get? b = none := (S'.w b q).1
      rw [z] at eb; cases eb
  · cases hc
theorem callOk_all (hm : m.Ok) {fns : List Str} (ht : TabOk m fns) (fuel : Nat) : ∀ n, CallOk prog w m (callD (m.specs.map (·.fd)) fuel n) n
  | 0 => fun _ _ _ e => nomatch e
  | n + 1 => fun f xs d e x a hf A s vs fp hA hmd hr Q E h => by
    have ih := callOk_all hm ht fuel n
    rw [o_ca] at e
    split at e
    · rename_i fd hfd
      rw [List.getElem?_map] at hfd
      obtain ⟨sp, hsp, rfl⟩ := Option.map_eq_some_iff.mp hfd
      have hok := ht.ok f sp hsp
      unfold runD at e
      split at e
      · rename_i hlen
        split at e
        · rename_i d' hden
          cases e
          refine wpAny_call (body_run (n := n) hm ht.fn rfl hA hok hmd (hmd.code f x a sp hf hsp) hr hlen.1 hlen.2 fun fdd s₁ W₁ rest hsc hrest hck S hsame hkeep => ?_)
          simp only [spOk, Bool.and_eq_true, Bool.or_eq_true, Bool.not_eq_true'] at hok
          rw [hrest] at hok
          obtain ⟨⟨_, hc⟩, h2⟩ := hok
          refine soundSs hm ih sp.fd.body rest _ _ hck hc _ _ s₁ W₁ hden S _ _ ?_
          intro v s' W' fp' r u st two
          have kp : Keep s.heap s'.heap := fun b o eb => let ⟨e1, e2, e3⟩ := hkeep b o eb; st.keep b o e2 e3 e1
          have k2 : Keeps s s' := by
            obtain ⟨h1, t1, rfl⟩ := st.same
            obtain ⟨h2, t2, rfl⟩ := hsame
            exact ⟨h1, t1, rfl, kp⟩
          refine h v s' fp' k2 r (fun z hz => (u z hz).2.symm) fun hin => two ?_
          rcases h2 with q | q
          · simp at q; exact absurd hin q
          · exact q
        · cases e
      · cases e
    · cases e
end
end Mine

namespace Mine
open PySem PyProof.Rows
set_option autoImplicit false
set_option maxRecDepth 100000
noncomputable def ns_is_pointer : List Str := [Str.ofString "w"]
noncomputable def fd_is_pointer : FD where
  np := 1
  nv := 1
  own := []
  pro := []
  body := (.cons (.ret (.cmp .eq (.mod (.var 0) (.int 2)) (.int 1)))
  .nil)
noncomputable def ns_pointer_to : List Str := [Str.ofString "a"]
noncomputable def fd_pointer_to : FD where
  np := 1
  nv := 1
  own := []
  pro := []
  body := (.cons (.ret (.add (.mulc 2 (.var 0)) (.int 1)))
  .nil)
noncomputable def ns_address_of : List Str := [Str.ofString "w"]
noncomputable def fd_address_of : FD where
  np := 1
  nv := 1
  own := []
  pro := []
  body := (.cons (.ret (.divc (.var 0) 2))
  .nil)
noncomputable def ns_blocks_of : List Str := [Str.ofString "mem", Str.ofString "blocks", Str.ofString "at", Str.ofString "j", Str.ofString "h", Str.ofString "n"]
noncomputable def fd_blocks_of : FD where
  np := 1
  nv := 6
  own := [1]
  pro := []
  body := (.cons (.assign 1 (.list .nil))
  (.cons (.assign 2 (.int 0))
  (.cons (.forR 3 (.len (.var 0)) (.cons (.ite (.ex (.cmp .eq (.var 3) (.var 2))) (.cons (.assign 4 (.idx (.var 0) (.var 3)))
      (.cons (.assign 5 (.ite (.ex (.cmp .ge (.var 4) (.int 0))) (.add (.var 4) (.int 1)) (.neg (.var 4))))
      (.cons (.ite (.ex (.cmp .gt (.add (.var 3) (.var 5)) (.len (.var 0)))) (.cons (.ret .none)
        .nil) .nil)
      (.cons (.append 1 (.tuple (.cons (.var 3) (.cons (.var 5) (.cons (.cmp .lt (.var 4) (.int 0)) .nil)))))
      (.cons (.assign 2 (.add (.var 3) (.var 5)))
      .nil))))) .nil)
    .nil))
  (.cons (.ret (.var 1))
  .nil))))
noncomputable def ns_free_words : List Str := [Str.ofString "mem", Str.ofString "total", Str.ofString "b"]
noncomputable def fd_free_words : FD where
  np := 1
  nv := 3
  own := []
  pro := []
  body := (.cons (.assign 1 (.int 0))
  (.cons (.forL 2 (.call 3 (.cons (.var 0) .nil)) (.cons (.ite (.ex (.idx (.var 2) (.int 2))) (.cons (.assign 1 (.add (.var 1) (.idx (.var 2) (.int 1))))
      .nil) .nil)
    .nil))
  (.cons (.ret (.var 1))
  .nil)))
noncomputable def ns_allocate : List Str := [Str.ofString "mem", Str.ofString "fields", Str.ofString "blocks", Str.ofString "need", Str.ofString "b", Str.ofString "a", Str.ofString "new", Str.ofString "i"]
noncomputable def fd_allocate : FD where
  np := 2
  nv := 8
  own := [6]
  pro := []
  body := (.cons (.assign 2 (.call 3 (.cons (.var 0) .nil)))
  (.cons (.ite (.ex (.isN (.var 2))) (.cons .stuck
    .nil) .nil)
  (.cons (.assign 3 (.add (.len (.var 1)) (.int 1)))
  (.cons (.forL 4 (.var 2) (.cons (.ite (.and (.ex (.idx (.var 4) (.int 2))) (.ex (.cmp .ge (.idx (.var 4) (.int 1)) (.var 3)))) (.cons (.assign 5 (.idx (.var 4) (.int 0)))
      (.cons (.assign 6 (.listOf (.var 0)))
      (.cons (.store 6 (.var 5) (.len (.var 1)))
      (.cons (.forR 7 (.len (.var 1)) (.cons (.store 6 (.add (.add (.var 5) (.int 1)) (.var 7)) (.idx (.var 1) (.var 7)))
        .nil))
      (.cons (.ite (.ex (.cmp .gt (.idx (.var 4) (.int 1)) (.var 3))) (.cons (.store 6 (.add (.var 5) (.var 3)) (.sub (.var 3) (.idx (.var 4) (.int 1))))
        .nil) .nil)
      (.cons (.ret (.tuple (.cons (.var 6) (.cons (.var 5) .nil))))
      .nil)))))) .nil)
    .nil))
  (.cons .stuck
  .nil)))))
noncomputable def ns_fields_of : List Str := [Str.ofString "mem", Str.ofString "a"]
noncomputable def fd_fields_of : FD where
  np := 2
  nv := 2
  own := []
  pro := []
  body := (.cons (.ret (.slLH (.var 0) (.add (.var 1) (.int 1)) (.add (.add (.var 1) (.int 1)) (.idx (.var 0) (.var 1)))))
  .nil)
noncomputable def ns_with_field : List Str := [Str.ofString "mem", Str.ofString "a", Str.ofString "i", Str.ofString "w", Str.ofString "new"]
noncomputable def fd_with_field : FD where
  np := 4
  nv := 5
  own := [4]
  pro := []
  body := (.cons (.assign 4 (.listOf (.var 0)))
  (.cons (.store 4 (.add (.add (.var 1) (.int 1)) (.var 2)) (.var 3))
  (.cons (.ret (.var 4))
  .nil)))
noncomputable def ns_reachable : List Str := [Str.ofString "mem", Str.ofString "roots", Str.ofString "met", Str.ofString "w", Str.ofString "place"]
noncomputable def fd_reachable : FD where
  np := 2
  nv := 5
  own := [2]
  pro := []
  body := (.cons (.assign 2 (.list .nil))
  (.cons (.forL 3 (.var 1) (.cons (.ite (.and (.ex (.call 0 (.cons (.var 3) .nil))) (.ex (.cmp .notin (.call 2 (.cons (.var 3) .nil)) (.var 2)))) (.cons (.append 2 (.call 2 (.cons (.var 3) .nil)))
      .nil) .nil)
    .nil))
  (.cons (.assign 4 (.int 0))
  (.cons (.while (.ex (.cmp .lt (.var 4) (.len (.var 2)))) (.cons (.forL 3 (.call 6 (.cons (.var 0) (.cons (.idx (.var 2) (.var 4)) .nil))) (.cons (.ite (.and (.ex (.call 0 (.cons (.var 3) .nil))) (.ex (.cmp .notin (.call 2 (.cons (.var 3) .nil)) (.var 2)))) (.cons (.append 2 (.call 2 (.cons (.var 3) .nil)))
        .nil) .nil)
      .nil))
    (.cons (.assign 4 (.add (.var 4) (.int 1)))
    .nil)))
  (.cons (.ret (.var 2))
  .nil)))))
noncomputable def ns_live_words : List Str := [Str.ofString "mem", Str.ofString "roots", Str.ofString "total", Str.ofString "a"]
noncomputable def fd_live_words : FD where
  np := 2
  nv := 4
  own := []
  pro := []
  body := (.cons (.assign 2 (.int 0))
  (.cons (.forL 3 (.call 8 (.cons (.var 0) (.cons (.var 1) .nil))) (.cons (.assign 2 (.add (.add (.var 2) (.idx (.var 0) (.var 3))) (.int 1)))
    .nil))
  (.cons (.ret (.var 2))
  .nil)))
noncomputable def ns_swept : List Str := [Str.ofString "mem", Str.ofString "marked", Str.ofString "new", Str.ofString "run", Str.ofString "b", Str.ofString "a", Str.ofString "n"]
noncomputable def fd_swept : FD where
  np := 2
  nv := 7
  own := [2]
  pro := []
  body := (.cons (.assign 2 (.list .nil))
  (.cons (.assign 3 (.neg (.int 1)))
  (.cons (.forL 4 (.call 3 (.cons (.var 0) .nil)) (.cons (.assign 5 (.idx (.var 4) (.int 0)))
    (.cons (.assign 6 (.idx (.var 4) (.int 1)))
    (.cons (.ite (.and (.not (.ex (.idx (.var 4) (.int 2)))) (.ex (.cmp .isin (.var 5) (.var 1)))) (.cons (.assign 2 (.cat (.var 2) (.slLH (.var 0) (.var 5) (.add (.var 5) (.var 6)))))
      (.cons (.assign 3 (.neg (.int 1)))
      .nil)) (.cons (.ite (.ex (.cmp .ge (.var 3) (.int 0))) (.cons (.store 2 (.var 3) (.sub (.idx (.var 2) (.var 3)) (.var 6)))
        (.cons (.assign 2 (.cat (.var 2) (.repl (.int 0) (.var 6))))
        .nil)) (.cons (.assign 3 (.len (.var 2)))
        (.cons (.assign 2 (.cat (.cat (.var 2) (.list (.cons (.neg (.var 6)) .nil))) (.repl (.int 0) (.sub (.var 6) (.int 1)))))
        .nil)))
      .nil))
    .nil))))
  (.cons (.ret (.var 2))
  .nil))))
noncomputable def ns_collected_by_sweeping : List Str := [Str.ofString "mem", Str.ofString "roots"]
noncomputable def fd_collected_by_sweeping : FD where
  np := 2
  nv := 2
  own := []
  pro := []
  body := (.cons (.ret (.call 10 (.cons (.var 0) (.cons (.call 8 (.cons (.var 0) (.cons (.var 1) .nil))) .nil))))
  .nil)
noncomputable def ns_forwarded : List Str := [Str.ofString "mem", Str.ofString "new", Str.ofString "forward", Str.ofString "top", Str.ofString "w", Str.ofString "a", Str.ofString "j"]
noncomputable def fd_forwarded : FD where
  np := 5
  nv := 7
  own := [2, 1]
  pro := [1, 2]
  body := (.cons (.ite (.not (.ex (.call 0 (.cons (.var 4) .nil)))) (.cons (.ret2 1 2 (.var 3) (.var 4))
    .nil) .nil)
  (.cons (.assign 5 (.call 2 (.cons (.var 4) .nil)))
  (.cons (.ite (.ex (.cmp .lt (.idx (.var 2) (.var 5)) (.int 0))) (.cons (.forR 6 (.add (.idx (.var 0) (.var 5)) (.int 1)) (.cons (.store 1 (.add (.var 3) (.var 6)) (.idx (.var 0) (.add (.var 5) (.var 6))))
      .nil))
    (.cons (.store 2 (.var 5) (.var 3))
    (.cons (.assign 3 (.add (.add (.var 3) (.idx (.var 0) (.var 5))) (.int 1)))
    .nil))) .nil)
  (.cons (.ret2 1 2 (.var 3) (.call 1 (.cons (.idx (.var 2) (.var 5)) .nil)))
  .nil))))
noncomputable def ns_collected_by_copying : List Str := [Str.ofString "mem", Str.ofString "roots", Str.ofString "size", Str.ofString "new", Str.ofString "forward", Str.ofString "top", Str.ofString "moved", Str.ofString "w", Str.ofString "step", Str.ofString "scan", Str.ofString "i"]
noncomputable def fd_collected_by_copying : FD where
  np := 2
  nv := 11
  own := [3, 6]
  pro := []
  body := (.cons (.assign 2 (.len (.var 0)))
  (.cons (.assign 3 (.repl (.int 0) (.var 2)))
  (.cons (.assign 4 (.repl (.neg (.int 1)) (.var 2)))
  (.cons (.assign 5 (.int 0))
  (.cons (.assign 6 (.list .nil))
  (.cons (.forL 7 (.var 1) (.unpA 12 (.cons (.var 0) (.cons (.var 3) (.cons (.var 4) (.cons (.var 5) (.cons (.var 7) .nil))))) 8 3 4 5 6
    .nil))
  (.cons (.assign 9 (.int 0))
  (.cons (.while (.ex (.cmp .lt (.var 9) (.var 5))) (.cons (.forR 10 (.idx (.var 3) (.var 9)) (.unpS 12 (.cons (.var 0) (.cons (.var 3) (.cons (.var 4) (.cons (.var 5) (.cons (.idx (.var 3) (.add (.add (.var 9) (.int 1)) (.var 10))) .nil))))) 8 3 4 5 (.add (.add (.var 9) (.int 1)) (.var 10))
      .nil))
    (.cons (.assign 9 (.add (.add (.var 9) (.idx (.var 3) (.var 9))) (.int 1)))
    .nil)))
  (.cons (.ite (.ex (.cmp .lt (.var 5) (.var 2))) (.cons (.store 3 (.var 5) (.sub (.var 5) (.var 2)))
    .nil) .nil)
  (.cons (.ret (.tuple (.cons (.var 3) (.cons (.var 6) .nil))))
  .nil))))))))))
noncomputable def ns_shape_of : List Str := [Str.ofString "mem", Str.ofString "roots", Str.ofString "order", Str.ofString "number", Str.ofString "i", Str.ofString "shown_roots", Str.ofString "shown", Str.ofString "a"]
noncomputable def fd_shape_of : FD where
  np := 2
  nv := 8
  own := [3, 6]
  pro := []
  body := (.cons (.assign 2 (.call 8 (.cons (.var 0) (.cons (.var 1) .nil))))
  (.cons (.assign 3 (.repl (.neg (.int 1)) (.len (.var 0))))
  (.cons (.forR 4 (.len (.var 2)) (.cons (.store 3 (.idx (.var 2) (.var 4)) (.var 4))
    .nil))
  (.cons (.assign 5 (.comp (Str.ofString "w") [3] false (.var 1) .tt (.ite (.ex (.call 0 (.cons (.var 0) .nil))) (.call 1 (.cons (.idx (.var 1) (.call 2 (.cons (.var 0) .nil))) .nil)) (.var 0))))
  (.cons (.assign 6 (.list .nil))
  (.cons (.forL 7 (.var 2) (.cons (.append 6 (.comp (Str.ofString "w") [3] false (.call 6 (.cons (.var 0) (.cons (.var 7) .nil))) .tt (.ite (.ex (.call 0 (.cons (.var 0) .nil))) (.call 1 (.cons (.idx (.var 1) (.call 2 (.cons (.var 0) .nil))) .nil)) (.var 0))))
    .nil))
  (.cons (.ret (.tuple (.cons (.var 5) (.cons (.var 6) .nil))))
  .nil)))))))
noncomputable def ns_allocate_or_collect : List Str := [Str.ofString "mem", Str.ofString "roots", Str.ofString "fields", Str.ofString "how", Str.ofString "got", Str.ofString "moved"]
noncomputable def fd_allocate_or_collect : FD where
  np := 4
  nv := 6
  own := []
  pro := []
  body := (.cons (.assign 4 .none)
  (.cons .stuck
  (.cons (.ite (.ex (.notN (.var 4))) (.cons (.ret (.tuple (.cons (.idx (.var 4) (.int 0)) (.cons (.listOf (.var 1)) (.cons (.idx (.var 4) (.int 1)) .nil)))))
    .nil) .nil)
  (.cons (.ite (.ex (.cmp .eq (.var 3) (.str (Str.ofString "sweep")))) (.cons (.assign 0 (.call 11 (.cons (.var 0) (.cons (.var 1) .nil))))
    (.cons (.assign 1 (.listOf (.var 1)))
    .nil)) (.cons (.ite (.ex (.cmp .eq (.var 3) (.str (Str.ofString "copy")))) (.cons (.assign 5 (.call 13 (.cons (.var 0) (.cons (.var 1) .nil))))
      (.cons (.assign 0 (.idx (.var 5) (.int 0)))
      (.cons (.assign 1 (.idx (.var 5) (.int 1)))
      .nil))) (.cons (.assign 1 (.listOf (.var 1)))
      .nil))
    .nil))
  (.cons (.assign 4 (.call 5 (.cons (.var 0) (.cons (.var 2) .nil))))
  (.cons (.ret (.tuple (.cons (.idx (.var 4) (.int 0)) (.cons (.var 1) (.cons (.idx (.var 4) (.int 1)) .nil)))))
  .nil))))))
noncomputable def ns_law_words : List Str := [Str.ofString "row", Str.ofString "place"]
noncomputable def fd_law_words : FD where
  np := 2
  nv := 2
  own := []
  pro := []
  body := (.cons (.ret (.comp (Str.ofString "c") [1] false (.var 0) .tt (.ite (.ex (.cmp .lt (.mod (.var 0) (.int 6)) (.int 4))) (.add (.mulc 2 (.idx (.var 1) (.mod (.var 0) (.int 6)))) (.int 1)) (.mulc 2 (.abs (.var 0))))))
  .nil)
noncomputable def ns_law_places : List Str := [Str.ofString "order", Str.ofString "wide", Str.ofString "pairs", Str.ofString "at", Str.ofString "name"]
noncomputable def fd_law_places : FD where
  np := 2
  nv := 5
  own := [2]
  pro := []
  body := (.cons (.assign 2 (.list .nil))
  (.cons (.assign 3 (.int 0))
  (.cons (.forL 4 (.var 0) (.cons (.append 2 (.tuple (.cons (.var 4) (.cons (.var 3) .nil))))
    (.cons (.assign 3 (.add (.var 3) (.idx (.var 1) (.var 4))))
    .nil)))
  (.cons (.ret (.dictOf (.var 2)))
  .nil))))
noncomputable def ns_law_heap : List Str := [Str.ofString "order", Str.ofString "rows", Str.ofString "wide", Str.ofString "kept", Str.ofString "place", Str.ofString "laid", Str.ofString "gap", Str.ofString "name"]
noncomputable def fd_law_heap : FD where
  np := 4
  nv := 8
  own := []
  pro := []
  body := (.cons (.assign 4 (.call 17 (.cons (.var 0) (.cons (.var 2) .nil))))
  (.cons (.assign 5 (.list .nil))
  (.cons (.assign 6 (.int 0))
  (.cons (.forL 7 (.var 0) (.cons (.ite (.ex (.cmp .isin (.var 7) (.var 3))) (.cons (.assign 5 (.cat (.cat (.cat (.cat (.var 5) (.slH (.list (.cons (.neg (.var 6)) .nil)) (.var 6))) (.repl (.int 0) (.sub (.var 6) (.int 1)))) (.list (.cons (.len (.idx (.var 1) (.var 7))) .nil))) (.call 16 (.cons (.idx (.var 1) (.var 7)) (.cons (.var 4) .nil)))))
      (.cons (.assign 6 (.int 0))
      .nil)) (.cons (.assign 6 (.add (.var 6) (.idx (.var 2) (.var 7))))
      .nil))
    .nil))
  (.cons (.ret (.cat (.cat (.var 5) (.slH (.list (.cons (.neg (.var 6)) .nil)) (.var 6))) (.repl (.int 0) (.sub (.var 6) (.int 1)))))
  .nil)))))
noncomputable def ns_law_live : List Str := [Str.ofString "roots", Str.ofString "rows", Str.ofString "todo", Str.ofString "met", Str.ofString "i"]
noncomputable def fd_law_live : FD where
  np := 2
  nv := 5
  own := [3]
  pro := []
  body := (.cons (.assign 2 (.listOf (.var 0)))
  (.cons (.assign 3 (.list .nil))
  (.cons (.forR 4 (.int 11) (.cons (.ite (.and (.ex (.cmp .lt (.var 4) (.len (.var 2)))) (.and (.ex (.cmp .lt (.mod (.idx (.var 2) (.var 4)) (.int 6)) (.int 4))) (.ex (.cmp .notin (.mod (.idx (.var 2) (.var 4)) (.int 6)) (.var 3))))) (.cons (.append 3 (.mod (.idx (.var 2) (.var 4)) (.int 6)))
      (.cons (.assign 2 (.cat (.var 2) (.idx (.var 1) (.mod (.idx (.var 2) (.var 4)) (.int 6)))))
      .nil)) .nil)
    .nil))
  (.cons (.ret (.var 3))
  .nil))))
noncomputable def ns_law_packed : List Str := [Str.ofString "live"]
noncomputable def fd_law_packed : FD where
  np := 1
  nv := 1
  own := []
  pro := []
  body := (.cons (.ret (.cat (.var 0) (.comp (Str.ofString "n") [0] true (.int 6) (.ex (.cmp .notin (.var 0) (.var 1))) (.var 0))))
  .nil)
noncomputable def ns_law_seen : List Str := [Str.ofString "roots", Str.ofString "rows", Str.ofString "live", Str.ofString "rank", Str.ofString "shown", Str.ofString "name"]
noncomputable def fd_law_seen : FD where
  np := 2
  nv := 6
  own := [4]
  pro := []
  body := (.cons (.assign 2 (.call 19 (.cons (.var 0) (.cons (.var 1) .nil))))
  (.cons (.assign 3 (.call 17 (.cons (.var 2) (.cons (.list (.cons (.int 1) (.cons (.int 1) (.cons (.int 1) (.cons (.int 1) (.cons (.int 1) (.cons (.int 1) .nil))))))) .nil))))
  (.cons (.assign 4 (.list .nil))
  (.cons (.forL 5 (.var 2) (.cons (.append 4 (.call 16 (.cons (.idx (.var 1) (.var 5)) (.cons (.var 3) .nil))))
    .nil))
  (.cons (.ret (.tuple (.cons (.call 16 (.cons (.var 0) (.cons (.var 3) .nil))) (.cons (.var 4) .nil))))
  .nil)))))
noncomputable def ns_law_relaid : List Str := [Str.ofString "seen", Str.ofString "size", Str.ofString "at", Str.ofString "row", Str.ofString "mem"]
noncomputable def fd_law_relaid : FD where
  np := 2
  nv := 5
  own := [2]
  pro := []
  body := (.cons (.assign 2 (.list (.cons (.int 0) .nil)))
  (.cons (.forL 3 (.idx (.var 0) (.int 1)) (.cons (.append 2 (.add (.add (.last (.var 2)) (.len (.var 3))) (.int 1)))
    .nil))
  (.cons (.assign 4 (.cat (.list (.cons (.neg (.var 1)) .nil)) (.repl (.int 0) (.sub (.var 1) (.int 1)))))
  (.cons (.forL 3 (.idx (.var 0) (.int 1)) (.cons (.assign 4 (.idx (.call 5 (.cons (.var 4) (.cons (.comp (Str.ofString "w") [2] false (.var 3) .tt (.ite (.ex (.cmp .eq (.mod (.var 0) (.int 2)) (.int 1))) (.add (.mulc 2 (.idx (.var 1) (.divc (.var 0) 2))) (.int 1)) (.var 0))) .nil))) (.int 0)))
    .nil))
  (.cons (.ret (.tuple (.cons (.var 4) (.cons (.comp (Str.ofString "w") [2] false (.idx (.var 0) (.int 0)) .tt (.ite (.ex (.cmp .eq (.mod (.var 0) (.int 2)) (.int 1))) (.add (.mulc 2 (.idx (.var 1) (.divc (.var 0) 2))) (.int 1)) (.var 0))) .nil))))
  .nil)))))
noncomputable def ns_law_ways : List Str := [Str.ofString "order", Str.ofString "rows", Str.ofString "wide", Str.ofString "roots", Str.ofString "full", Str.ofString "live", Str.ofString "packed", Str.ofString "used", Str.ofString "size", Str.ofString "mem", Str.ofString "held", Str.ofString "handed", Str.ofString "seen", Str.ofString "moved", Str.ofString "clean"]
noncomputable def fd_law_ways : FD where
  np := 5
  nv := 15
  own := []
  pro := []
  body := (.cons (.assign 5 (.call 19 (.cons (.var 3) (.cons (.var 1) .nil))))
  (.cons (.assign 6 (.call 20 (.cons (.var 5) .nil)))
  (.cons (.assign 7 (.sum (.comp (Str.ofString "n") [2] false (.var 5) .tt (.idx (.var 1) (.var 0)))))
  (.cons (.assign 8 (.sum (.var 2)))
  (.cons (.assign 9 (.call 18 (.cons (.var 0) (.cons (.var 1) (.cons (.var 2) (.cons (.var 4) .nil))))))
  (.cons (.assign 10 (.call 16 (.cons (.var 3) (.cons (.call 17 (.cons (.var 0) (.cons (.var 2) .nil))) .nil))))
  (.cons (.assign 11 (.tuple (.cons (.listOf (.var 9)) (.cons (.listOf (.var 10)) .nil))))
  (.cons (.assign 12 (.call 14 (.cons (.var 9) (.cons (.var 10) .nil))))
  (.cons (.ite (.ex (.cmp .ne (.var 12) (.call 21 (.cons (.var 3) (.cons (.var 1) .nil))))) (.cons (.ret (.bool false))
    .nil) .nil)
  (.cons (.assign 13 (.call 13 (.cons (.var 9) (.cons (.var 10) .nil))))
  (.cons (.ite (.ex (.cmp .ne (.var 13) (.tuple (.cons (.call 18 (.cons (.var 6) (.cons (.var 1) (.cons (.var 2) (.cons (.var 5) .nil))))) (.cons (.call 16 (.cons (.var 3) (.cons (.call 17 (.cons (.var 6) (.cons (.var 2) .nil))) .nil))) .nil))))) (.cons (.ret (.bool false))
    .nil) .nil)
  (.cons (.ite (.ex (.cmp .ne (.call 22 (.cons (.var 12) (.cons (.var 8) .nil))) (.var 13))) (.cons (.ret (.bool false))
    .nil) .nil)
  (.cons (.assign 14 (.call 11 (.cons (.var 9) (.cons (.var 10) .nil))))
  (.cons (.ite (.ex (.cmp .ne (.var 14) (.call 18 (.cons (.var 0) (.cons (.var 1) (.cons (.var 2) (.cons (.var 5) .nil))))))) (.cons (.ret (.bool false))
    .nil) .nil)
  (.cons (.ite (.ex (.cmp .ne (.call 13 (.cons (.var 14) (.cons (.var 10) .nil))) (.var 13))) (.cons (.ret (.bool false))
    .nil) .nil)
  (.cons (.ite (.ex (.cmp .ne (.call 11 (.cons (.idx (.var 13) (.int 0)) (.cons (.idx (.var 13) (.int 1)) .nil))) (.idx (.var 13) (.int 0)))) (.cons (.ret (.bool false))
    .nil) .nil)
  (.cons (.ite (.ex (.cmp .ne (.call 14 (.cons (.idx (.var 13) (.int 0)) (.cons (.idx (.var 13) (.int 1)) .nil))) (.var 12))) (.cons (.ret (.bool false))
    .nil) .nil)
  (.cons (.ite (.or (.ex (.cmp .ne (.call 9 (.cons (.var 9) (.cons (.var 10) .nil))) (.var 7))) (.or (.ex (.cmp .ne (.call 4 (.cons (.var 14) .nil)) (.sub (.var 8) (.var 7)))) (.ex (.cmp .ne (.call 4 (.cons (.idx (.var 13) (.int 0)) .nil)) (.sub (.var 8) (.var 7)))))) (.cons (.ret (.bool false))
    .nil) .nil)
  (.cons .stuck
  (.cons (.ite (.ex (.cmp .ne (.tuple (.cons (.var 9) (.cons (.var 10) .nil))) (.var 11))) (.cons (.ret (.bool false))
    .nil) .nil)
  (.cons (.ret (.bool true))
  .nil)))))))))))))))))))))
noncomputable def ns_law_lays : List Str := [Str.ofString "order", Str.ofString "rows", Str.ofString "wide", Str.ofString "roots", Str.ofString "full", Str.ofString "filled", Str.ofString "how", Str.ofString "live", Str.ofString "need", Str.ofString "mem", Str.ofString "held", Str.ofString "fields", Str.ofString "handed", Str.ofString "stand", Str.ofString "kept", Str.ofString "base", Str.ofString "spots", Str.ofString "got", Str.ofString "ahead", Str.ofString "wider", Str.ofString "due", Str.ofString "ended"]
noncomputable def fd_law_lays : FD where
  np := 7
  nv := 22
  own := []
  pro := []
  body := (.cons (.assign 7 (.call 19 (.cons (.var 3) (.cons (.var 1) .nil))))
  (.cons (.assign 8 (.add (.len (.var 5)) (.int 1)))
  (.cons (.assign 9 (.call 18 (.cons (.var 0) (.cons (.var 1) (.cons (.var 2) (.cons (.var 4) .nil))))))
  (.cons (.assign 10 (.call 16 (.cons (.var 3) (.cons (.call 17 (.cons (.var 0) (.cons (.var 2) .nil))) .nil))))
  (.cons (.assign 11 (.call 16 (.cons (.var 5) (.cons .dict0 .nil))))
  (.cons (.assign 12 (.tuple (.cons (.listOf (.var 9)) (.cons (.listOf (.var 10)) (.cons (.listOf (.var 11)) .nil)))))
  (.cons (.assign 13 (.var 0))
  (.cons (.assign 14 (.var 4))
  (.cons (.ite (.and (.ex (.cmp .lt (.idx (.var 2) (.int 5)) (.var 8))) (.ex (.cmp .ne (.var 6) (.str (Str.ofString "none"))))) (.cons (.assign 14 (.var 7))
    (.cons (.ite (.ex (.cmp .eq (.var 6) (.str (Str.ofString "copy")))) (.cons (.assign 13 (.call 20 (.cons (.var 7) .nil)))
      .nil) .nil)
    .nil)) .nil)
  (.cons (.assign 15 (.call 18 (.cons (.var 13) (.cons (.var 1) (.cons (.var 2) (.cons (.var 14) .nil))))))
  (.cons (.assign 16 (.comp (Str.ofString "i") [15, 8] true (.len (.var 15)) (.ex (.cmp .le (.idx (.var 1) (.var 0)) (.neg (.var 2)))) (.var 0)))
  (.cons (.assign 17 .none)
  (.cons .stuck
  (.cons (.ite (.ex (.cmp .ne (.tuple (.cons (.var 9) (.cons (.var 10) (.cons (.var 11) .nil)))) (.var 12))) (.cons (.ret (.bool false))
    .nil) .nil)
  (.cons (.ite (.ex (.cmp .ne (.isN (.var 17)) (.cmp .eq (.var 16) (.list .nil)))) (.cons (.ret (.bool false))
    .nil) .nil)
  (.cons (.ite (.ex (.notN (.var 17))) (.cons (.ite (.or (.not (.ex (.typeIs (.var 17) "tuple"))) (.or (.not (.ex (.typeIs (.idx (.var 17) (.int 2)) "int"))) (.ex (.cmp .ne (.idx (.var 17) (.int 2)) (.idx (.var 16) (.int 0)))))) (.cons (.ret (.bool false))
      .nil) .nil)
    (.cons (.ite (.ex (.cmp .ne (.idx (.var 17) (.int 1)) (.call 16 (.cons (.var 3) (.cons (.call 17 (.cons (.var 13) (.cons (.var 2) .nil))) .nil))))) (.cons (.ret (.bool false))
      .nil) .nil)
    (.cons (.assign 18 (.cat (.list (.cons (.int 4) .nil)) (.comp (Str.ofString "n") [] false (.call 20 (.cons (.var 7) .nil)) (.ex (.cmp .ne (.var 0) (.int 4))) (.var 0))))
    (.cons (.assign 19 (.cat (.slH (.var 2) (.int 4)) (.list (.cons (.var 8) (.cons (.sub (.add (.idx (.var 2) (.int 4)) (.idx (.var 2) (.int 5))) (.var 8)) .nil)))))
    (.cons (.assign 20 (.call 18 (.cons (.var 18) (.cons (.cat (.slH (.var 1) (.int 4)) (.list (.cons (.var 5) .nil))) (.cons (.var 19) (.cons (.cat (.list (.cons (.int 4) .nil)) (.var 7)) .nil))))))
    (.cons (.assign 21 (.call 13 (.cons (.idx (.var 17) (.int 0)) (.cons (.cat (.list (.cons (.add (.mulc 2 (.idx (.var 17) (.int 2))) (.int 1)) .nil)) (.idx (.var 17) (.int 1))) .nil))))
    (.cons (.ite (.ex (.cmp .ne (.var 21) (.tuple (.cons (.var 20) (.cons (.cat (.list (.cons (.int 1) .nil)) (.call 16 (.cons (.var 3) (.cons (.call 17 (.cons (.var 18) (.cons (.var 19) .nil))) .nil)))) .nil))))) (.cons (.ret (.bool false))
      .nil) .nil)
    .nil))))))) .nil)
  (.cons (.ret (.bool true))
  .nil)))))))))))))))))
noncomputable def ns_law_told : List Str := [Str.ofString "order", Str.ofString "other", Str.ofString "rows", Str.ofString "turned", Str.ofString "wide", Str.ofString "roots", Str.ofString "full", Str.ofString "deed", Str.ofString "place", Str.ofString "held", Str.ofString "mem", Str.ofString "before", Str.ofString "fresh", Str.ofString "twin", Str.ofString "twin_held", Str.ofString "same"]
noncomputable def fd_law_told : FD where
  np := 8
  nv := 16
  own := []
  pro := []
  body := (.cons (.assign 8 (.call 17 (.cons (.var 0) (.cons (.var 4) .nil))))
  (.cons (.assign 9 (.call 16 (.cons (.var 5) (.cons (.var 8) .nil))))
  (.cons (.assign 10 (.call 18 (.cons (.var 0) (.cons (.var 2) (.cons (.var 4) (.cons (.var 6) .nil))))))
  (.cons (.assign 11 (.listOf (.var 10)))
  (.cons (.assign 12 (.call 7 (.cons (.var 10) (.cons (.idx (.var 8) (.idx (.var 7) (.int 0))) (.cons (.idx (.var 7) (.int 1)) (.cons (.idx (.call 16 (.cons (.list (.cons (.idx (.var 7) (.int 2)) .nil)) (.cons (.var 8) .nil))) (.int 0)) .nil))))))
  (.cons (.ite (.or (.ex (.cmp .ne (.var 12) (.call 18 (.cons (.var 0) (.cons (.var 3) (.cons (.var 4) (.cons (.var 6) .nil))))))) (.ex (.cmp .ne (.var 10) (.var 11)))) (.cons (.ret (.bool false))
    .nil) .nil)
  (.cons (.assign 13 (.call 18 (.cons (.var 1) (.cons (.var 2) (.cons (.var 4) (.cons (.var 6) .nil))))))
  (.cons (.assign 14 (.call 16 (.cons (.var 5) (.cons (.call 17 (.cons (.var 1) (.cons (.var 4) .nil))) .nil))))
  (.cons (.assign 15 (.cmp .eq (.call 21 (.cons (.var 5) (.cons (.var 3) .nil))) (.call 21 (.cons (.var 5) (.cons (.var 2) .nil)))))
  (.cons (.ite (.ex (.cmp .ne (.cmp .eq (.call 14 (.cons (.var 12) (.cons (.var 9) .nil))) (.call 14 (.cons (.var 13) (.cons (.var 14) .nil)))) (.var 15))) (.cons (.ret (.bool false))
    .nil) .nil)
  (.cons (.ite (.ex (.cmp .ne (.cmp .eq (.call 13 (.cons (.var 12) (.cons (.var 9) .nil))) (.call 13 (.cons (.var 13) (.cons (.var 14) .nil)))) (.var 15))) (.cons (.ret (.bool false))
    .nil) .nil)
  (.cons (.ret (.bool true))
  .nil))))))))))))
noncomputable def ns_law_refusal : List Str := [Str.ofString "mem", Str.ofString "fields", Str.ofString "said"]
noncomputable def fd_law_refusal : FD where
  np := 2
  nv := 3
  own := []
  pro := []
  body := (.cons (.assign 2 (.str (Str.ofString "none")))
  (.cons .stuck
  (.cons (.ret (.var 2))
  .nil)))
noncomputable def ns_law : List Str := [Str.ofString "script", Str.ofString "rows", Str.ofString "wide", Str.ofString "full", Str.ofString "roots", Str.ofString "one", Str.ofString "two", Str.ofString "filled", Str.ofString "how", Str.ofString "order", Str.ofString "x", Str.ofString "row", Str.ofString "i", Str.ofString "turned", Str.ofString "behind"]
noncomputable def fd_law : FD where
  np := 1
  nv := 15
  own := []
  pro := []
  body := (.cons (.ite (.ex (.cmp .lt (.len (.var 0)) (.int 24))) (.cons (.ret (.bool true))
    .nil) .nil)
  (.cons (.assign 1 (.list (.cons (.slH (.list (.cons (.idx (.var 0) (.int 1)) (.cons (.idx (.var 0) (.int 2)) .nil))) (.mod (.idx (.var 0) (.int 0)) (.int 3))) (.cons (.slH (.list (.cons (.idx (.var 0) (.int 4)) (.cons (.idx (.var 0) (.int 5)) .nil))) (.mod (.idx (.var 0) (.int 3)) (.int 3))) .nil))))
  (.cons (.assign 1 (.cat (.var 1) (.list (.cons (.slH (.list (.cons (.idx (.var 0) (.int 7)) (.cons (.idx (.var 0) (.int 8)) .nil))) (.mod (.idx (.var 0) (.int 6)) (.int 3))) (.cons (.slH (.list (.cons (.idx (.var 0) (.int 10)) (.cons (.idx (.var 0) (.int 11)) .nil))) (.mod (.idx (.var 0) (.int 9)) (.int 3))) .nil)))))
  (.cons (.assign 2 (.cat (.comp (Str.ofString "row") [] false (.var 1) .tt (.add (.len (.var 0)) (.int 1))) (.list (.cons (.mod (.idx (.var 0) (.int 12)) (.int 3)) (.cons (.mod (.idx (.var 0) (.int 17)) (.int 3)) .nil)))))
  (.cons (.assign 1 (.cat (.var 1) (.list (.cons (.slH (.list (.cons (.idx (.var 0) (.int 13)) .nil)) (.sub (.mod (.idx (.var 0) (.int 12)) (.int 3)) (.int 1))) .nil))))
  (.cons (.assign 3 (.list (.cons (.int 0) (.cons (.int 1) (.cons (.int 2) (.cons (.int 3) .nil))))))
  (.cons (.ite (.ex (.cmp .gt (.idx (.var 2) (.int 4)) (.int 0))) (.cons (.assign 3 (.list (.cons (.int 0) (.cons (.int 1) (.cons (.int 2) (.cons (.int 3) (.cons (.int 4) .nil)))))))
    .nil) .nil)
  (.cons (.assign 4 (.list (.cons (.idx (.var 0) (.int 14)) (.cons (.idx (.var 0) (.int 15)) (.cons (.idx (.var 0) (.int 16)) .nil)))))
  (.cons (.assign 5 (.cat (.slL (.list (.cons (.int 0) (.cons (.int 4) (.cons (.int 1) (.cons (.int 5) (.cons (.int 2) (.cons (.int 3) .nil))))))) (.mod (.idx (.var 0) (.int 18)) (.int 6))) (.slH (.list (.cons (.int 0) (.cons (.int 4) (.cons (.int 1) (.cons (.int 5) (.cons (.int 2) (.cons (.int 3) .nil))))))) (.mod (.idx (.var 0) (.int 18)) (.int 6)))))
  (.cons (.assign 6 (.cat (.slL (.list (.cons (.int 3) (.cons (.int 2) (.cons (.int 5) (.cons (.int 1) (.cons (.int 4) (.cons (.int 0) .nil))))))) (.mod (.idx (.var 0) (.int 19)) (.int 6))) (.slH (.list (.cons (.int 3) (.cons (.int 2) (.cons (.int 5) (.cons (.int 1) (.cons (.int 4) (.cons (.int 0) .nil))))))) (.mod (.idx (.var 0) (.int 19)) (.int 6)))))
  (.cons (.assign 7 (.slH (.list (.cons (.add (.mulc 6 (.idx (.var 0) (.int 21))) (.int 4)) (.cons (.add (.mulc 6 (.idx (.var 0) (.int 22))) (.int 4)) .nil))) (.mod (.idx (.var 0) (.int 13)) (.int 3))))
  (.cons (.assign 8 (.idx (.tuple (.cons (.str (Str.ofString "none")) (.cons (.str (Str.ofString "sweep")) (.cons (.str (Str.ofString "copy")) .nil)))) (.mod (.idx (.var 0) (.int 23)) (.int 3))))
  (.cons (.forL 9 (.list (.cons (.var 5) (.cons (.var 6) .nil))) (.cons (.ite (.not (.ex (.call 23 (.cons (.var 9) (.cons (.var 1) (.cons (.var 2) (.cons (.var 4) (.cons (.var 3) .nil)))))))) (.cons (.ret (.bool false))
      .nil) .nil)
    (.cons (.ite (.not (.ex (.call 24 (.cons (.var 9) (.cons (.var 1) (.cons (.var 2) (.cons (.var 4) (.cons (.var 3) (.cons (.var 7) (.cons (.var 8) .nil)))))))))) (.cons (.ret (.bool false))
      .nil) .nil)
    .nil)))
  (.cons (.assign 10 (.mod (.idx (.var 0) (.int 20)) (.int 4)))
  (.cons (.assign 11 (.idx (.var 1) (.var 10)))
  (.cons (.ite (.ex (.cmp .gt (.len (.var 11)) (.int 0))) (.cons (.assign 12 (.mod (.idx (.var 0) (.int 21)) (.len (.var 11))))
    (.cons (.assign 13 (.cat (.cat (.slH (.var 1) (.var 10)) (.list (.cons (.cat (.cat (.slH (.var 11) (.var 12)) (.list (.cons (.idx (.var 0) (.int 22)) .nil))) (.slL (.var 11) (.add (.var 12) (.int 1)))) .nil))) (.slL (.var 1) (.add (.var 10) (.int 1)))))
    (.cons (.ite (.not (.ex (.call 25 (.cons (.var 5) (.cons (.var 6) (.cons (.var 1) (.cons (.var 13) (.cons (.var 2) (.cons (.var 4) (.cons (.var 3) (.cons (.tuple (.cons (.var 10) (.cons (.var 12) (.cons (.idx (.var 0) (.int 22)) .nil)))) .nil))))))))))) (.cons (.ret (.bool false))
      .nil) .nil)
    .nil))) .nil)
  (.cons (.assign 14 (.slL (.call 18 (.cons (.var 6) (.cons (.var 1) (.cons (.var 2) (.cons (.var 3) .nil))))) (.int 1)))
  (.cons (.ite (.ex (.cmp .ne (.call 26 (.cons (.cat (.list (.cons (.add (.len (.var 14)) (.int 1)) .nil)) (.var 14)) (.cons (.repl (.int 0) (.len (.var 7))) .nil))) (.str (Str.ofString "untiled")))) (.cons (.ret (.bool false))
    .nil) .nil)
  (.cons (.ite (.ex (.cmp .ne (.call 26 (.cons (.cat (.list (.cons (.len (.var 14)) .nil)) (.var 14)) (.cons (.repl (.int 0) (.len (.var 7))) .nil))) (.str (Str.ofString "no room")))) (.cons (.ret (.bool false))
    .nil) .nil)
  (.cons (.ret (.bool true))
  .nil))))))))))))))))))))
noncomputable def fnNames : List Str := [Str.ofString "is_pointer", Str.ofString "pointer_to", Str.ofString "address_of", Str.ofString "blocks_of", Str.ofString "free_words", Str.ofString "allocate", Str.ofString "fields_of", Str.ofString "with_field", Str.ofString "reachable", Str.ofString "live_words", Str.ofString "swept", Str.ofString "collected_by_sweeping", Str.ofString "forwarded", Str.ofString "collected_by_copying", Str.ofString "shape_of", Str.ofString "allocate_or_collect", Str.ofString "_law_words", Str.ofString "_law_places", Str.ofString "_law_heap", Str.ofString "_law_live", Str.ofString "_law_packed", Str.ofString "_law_seen", Str.ofString "_law_relaid", Str.ofString "_law_ways", Str.ofString "_law_lays", Str.ofString "_law_told", Str.ofString "_law_refusal", Str.ofString "law"]
noncomputable def findDef (p : Program) (x : Str) : Option (Scope × List Stmt) := p.main.body.findSome? fun st => if h : st.ctorIdx = 0 then Stmt.FunctionDef.elim (motive_2 := fun _ => Option (Scope × List Stmt)) st h (fun y _ body _ _ _ scope _ _ _ => if y == x then some (scope, body) else none) else none
noncomputable def emptyScope : Scope := { kind := .module, names := [], isGenerator := false, isCoroutine := false, more := [] }
noncomputable def specFor (x : Str) (names : List Str) (fd : FD) : FnSpec := match findDef PySem.Challenge.pw_sx_zcinder_5 x with
  | some (sc, b) => ⟨fd, names, sc, b⟩
  | none => ⟨fd, names, emptyScope, []⟩
noncomputable def sp_is_pointer : FnSpec := specFor (Str.ofString "is_pointer") ns_is_pointer fd_is_pointer
noncomputable def sp_pointer_to : FnSpec := specFor (Str.ofString "pointer_to") ns_pointer_to fd_pointer_to
noncomputable def sp_address_of : FnSpec := specFor (Str.ofString "address_of") ns_address_of fd_address_of
noncomputable def sp_blocks_of : FnSpec := specFor (Str.ofString "blocks_of") ns_blocks_of fd_blocks_of
noncomputable def sp_free_words : FnSpec := specFor (Str.ofString "free_words") ns_free_words fd_free_words
noncomputable def sp_allocate : FnSpec := specFor (Str.ofString "allocate") ns_allocate fd_allocate
noncomputable def sp_fields_of : FnSpec := specFor (Str.ofString "fields_of") ns_fields_of fd_fields_of
noncomputable def sp_with_field : FnSpec := specFor (Str.ofString "with_field") ns_with_field fd_with_field
noncomputable def sp_reachable : FnSpec := specFor (Str.ofString "reachable") ns_reachable fd_reachable
noncomputable def sp_live_words : FnSpec := specFor (Str.ofString "live_words") ns_live_words fd_live_words
noncomputable def sp_swept : FnSpec := specFor (Str.ofString "swept") ns_swept fd_swept
noncomputable def sp_collected_by_sweeping : FnSpec := specFor (Str.ofString "collected_by_sweeping") ns_collected_by_sweeping fd_collected_by_sweeping
noncomputable def sp_forwarded : FnSpec := specFor (Str.ofString "forwarded") ns_forwarded fd_forwarded
noncomputable def sp_collected_by_copying : FnSpec := specFor (Str.ofString "collected_by_copying") ns_collected_by_copying fd_collected_by_copying
noncomputable def sp_shape_of : FnSpec := specFor (Str.ofString "shape_of") ns_shape_of fd_shape_of
noncomputable def sp_allocate_or_collect : FnSpec := specFor (Str.ofString "allocate_or_collect") ns_allocate_or_collect fd_allocate_or_collect
noncomputable def sp_law_words : FnSpec := specFor (Str.ofString "_law_words") ns_law_words fd_law_words
noncomputable def sp_law_places : FnSpec := specFor (Str.ofString "_law_places") ns_law_places fd_law_places
noncomputable def sp_law_heap : FnSpec := specFor (Str.ofString "_law_heap") ns_law_heap fd_law_heap
noncomputable def sp_law_live : FnSpec := specFor (Str.ofString "_law_live") ns_law_live fd_law_live
noncomputable def sp_law_packed : FnSpec := specFor (Str.ofString "_law_packed") ns_law_packed fd_law_packed
noncomputable def sp_law_seen : FnSpec := specFor (Str.ofString "_law_seen") ns_law_seen fd_law_seen
noncomputable def sp_law_relaid : FnSpec := specFor (Str.ofString "_law_relaid") ns_law_relaid fd_law_relaid
noncomputable def sp_law_ways : FnSpec := specFor (Str.ofString "_law_ways") ns_law_ways fd_law_ways
noncomputable def sp_law_lays : FnSpec := specFor (Str.ofString "_law_lays") ns_law_lays fd_law_lays
noncomputable def sp_law_told : FnSpec := specFor (Str.ofString "_law_told") ns_law_told fd_law_told
noncomputable def sp_law_refusal : FnSpec := specFor (Str.ofString "_law_refusal") ns_law_refusal fd_law_refusal
noncomputable def sp_law : FnSpec := specFor (Str.ofString "law") ns_law fd_law
noncomputable def specs : List FnSpec := [sp_is_pointer, sp_pointer_to, sp_address_of, sp_blocks_of, sp_free_words, sp_allocate, sp_fields_of, sp_with_field, sp_reachable, sp_live_words, sp_swept, sp_collected_by_sweeping, sp_forwarded, sp_collected_by_copying, sp_shape_of, sp_allocate_or_collect, sp_law_words, sp_law_places, sp_law_heap, sp_law_live, sp_law_packed, sp_law_seen, sp_law_relaid, sp_law_ways, sp_law_lays, sp_law_told, sp_law_refusal, sp_law]
noncomputable def twos : List Nat := [12]
theorem ok_is_pointer : spOk fnNames twos 0 sp_is_pointer = true := by decide +kernel
theorem ok_pointer_to : spOk fnNames twos 1 sp_pointer_to = true := by decide +kernel
theorem ok_address_of : spOk fnNames twos 2 sp_address_of = true := by decide +kernel
theorem ok_blocks_of : spOk fnNames twos 3 sp_blocks_of = true := by decide +kernel
theorem ok_free_words : spOk fnNames twos 4 sp_free_words = true := by decide +kernel
theorem ok_allocate : spOk fnNames twos 5 sp_allocate = true := by decide +kernel
theorem ok_fields_of : spOk fnNames twos 6 sp_fields_of = true := by decide +kernel
theorem ok_with_field : spOk fnNames twos 7 sp_with_field = true := by decide +kernel
theorem ok_reachable : spOk fnNames twos 8 sp_reachable = true := by decide +kernel
theorem ok_live_words : spOk fnNames twos 9 sp_live_words = true := by decide +kernel
theorem ok_swept : spOk fnNames twos 10 sp_swept = true := by decide +kernel
theorem ok_collected_by_sweeping : spOk fnNames twos 11 sp_collected_by_sweeping = true := by decide +kernel
theorem ok_forwarded : spOk fnNames twos 12 sp_forwarded = true := by decide +kernel
theorem ok_collected_by_copying : spOk fnNames twos 13 sp_collected_by_copying = true := by decide +kernel
theorem ok_shape_of : spOk fnNames twos 14 sp_shape_of = true := by decide +kernel
theorem ok_allocate_or_collect : spOk fnNames twos 15 sp_allocate_or_collect = true := by decide +kernel
theorem ok_law_words : spOk fnNames twos 16 sp_law_words = true := by decide +kernel
theorem ok_law_places : spOk fnNames twos 17 sp_law_places = true := by decide +kernel
theorem ok_law_heap : spOk fnNames twos 18 sp_law_heap = true := by decide +kernel
theorem ok_law_live : spOk fnNames twos 19 sp_law_live = true := by decide +kernel
theorem ok_law_packed : spOk fnNames twos 20 sp_law_packed = true := by decide +kernel
theorem ok_law_seen : spOk fnNames twos 21 sp_law_seen = true := by decide +kernel
theorem ok_law_relaid : spOk fnNames twos 22 sp_law_relaid = true := by decide +kernel
theorem ok_law_ways : spOk fnNames twos 23 sp_law_ways = true := by decide +kernel
theorem ok_law_lays : spOk fnNames twos 24 sp_law_lays = true := by decide +kernel
theorem ok_law_told : spOk fnNames twos 25 sp_law_told = true := by decide +kernel
theorem ok_law_refusal : spOk fnNames twos 26 sp_law_refusal = true := by decide +kernel
theorem ok_law : spOk fnNames twos 27 sp_law = true := by decide +kernel
end Mine

namespace Mine
open PySem PyProof.Rows PySem.W
set_option autoImplicit false
set_option maxRecDepth 10000
noncomputable def frs (l : List Env) : List Addr := l.filterMap (·.frame)
noncomputable def Mod.Tbl (m : Mod) (h : Heap) : Prop := ∃ more, h.IsCode m.tc m.tp (m.tps ++ more) ∧ h.TableAt m.tc m.tp (m.tps ++ more)
theorem Mod.Tbl.keeps {m : Mod} {h h' : Heap} (x : m.Tbl h) (k : Keep h h') : m.Tbl h' := let ⟨more, a, b⟩ := x; ⟨more, a.keeps k, b.keeps k⟩
theorem Mod.Tbl.p {m : Mod} {h : Heap} (x : m.Tbl h) : ∃ o vs, h.get? m.tp = some o ∧ o.data = .fields vs := let ⟨_, _, b⟩ := x; ⟨_, _, b.2, rfl⟩
theorem Mod.Tbl.c {m : Mod} {h : Heap} (x : m.Tbl h) : ∃ o vs, h.get? m.tc = some o ∧ o.data = .fields vs := let ⟨_, _, ⟨o, vs, e, _, d, _⟩, _⟩ := x; ⟨o, vs, e, d⟩
theorem Mod.Tbl.at2 {m : Mod} {h h' : Heap} (x : m.Tbl h) (kp : ∀ o, h.get? m.tp = some o → h'.get? m.tp = some o) (kc : ∀ o, h.get? m.tc = some o → h'.get? m.tc = some o) : m.Tbl h' := by
  obtain ⟨more, ⟨o, vs, file, tf, flags, tg, inF, text, tt, op, a, r1, r2, r3, r4, r5, r6, b, r7, r⟩, ⟨o', vs', a', c', d', e'⟩, b'⟩ := x
  exact ⟨more, ⟨o, vs, file, tf, flags, tg, inF, text, tt, op, kc _ a, r1, r2, r3, r4, r5, r6, kp _ b, r7, r⟩, ⟨o', vs', kc _ a', c', d', e'⟩, kp _ b'⟩
theorem Mod.Tbl.at {m : Mod} {h h' : Heap} (x : m.Tbl h) (k : ∀ b o vs, h.get? b = some o → o.data = .fields vs → h'.get? b = some o) : m.Tbl h' := by
  obtain ⟨more, ⟨o, vs, file, tf, flags, tg, inF, text, tt, op, a, r1, r2, r3, r4, r5, r6, b, r7, r⟩, ⟨o', vs', a', c', d', e'⟩, b'⟩ := x
  exact ⟨more, ⟨o, vs, file, tf, flags, tg, inF, text, tt, op, k _ _ _ a r1, r1, r2, r3, r4, r5, r6, k _ _ _ b r7, r7, r⟩, ⟨o', vs', k _ _ _ a' d', c', d', e'⟩, k _ _ _ b' rfl⟩
structure Stk (m : Mod) (B0 : Heap) (A : Around) (l : List Env) (h : Heap) : Prop where
  stack : A.frames = some l
  md : m.In B0
  stays : B0.StaysIn h
  frames : h.FunFrames B0 l
  hideP : B0.get? m.tp = none
  tbl : m.Tbl h
structure LStep (m : Mod) (l : List Env) (s s' : Shared) : Prop where
  same : ∃ h tk g, s' = { s with heap := h, toks := tk, gens := g }
  bare : AllBare s.gens → AllBare s'.gens
  keep : ∀ b o, b ∉ frs l → b ≠ m.tp → s.heap.get? b = some o → s'.heap.get? b = some o
  slots : s.heap.UpToSlots s'.heap
  tbl : m.Tbl s.heap → m.Tbl s'.heap
theorem LStep.of_keeps {m : Mod} {l : List Env} {s s' : Shared} (k : Keeps s s') : LStep m l s s' := by
  obtain ⟨h, tk, rfl, kp⟩ := k
  exact ⟨⟨h, tk, s.gens, rfl⟩, id, fun b o _ _ e => kp b o e, .of_keeps kp, fun x => x.keeps kp⟩
theorem LStep.trans {m : Mod} {l : List Env} {s s' s'' : Shared} (a : LStep m l s s') (b : LStep m l s' s'') : LStep m l s s'' := by
  obtain ⟨h, tk, g, rfl⟩ := a.same
  obtain ⟨h', tk', g', rfl⟩ := b.same
  exact ⟨⟨h', tk', g', rfl⟩, fun x => b.bare (a.bare x), fun x o hn hp e => b.keep x o hn hp (a.keep x o hn hp e), a.slots.trans b.slots, fun x => b.tbl (a.tbl x)⟩
theorem Stk.md' {m : Mod} {B0 : Heap} {A : Around} {l : List Env} {h : Heap} (k : Stk m B0 A l h) : m.In h := k.md.keeps k.stays
theorem Stk.step {m : Mod} {B0 : Heap} {A : Around} {l : List Env} {s s' : Shared} (k : Stk m B0 A l s.heap) (t : LStep m l s s') : Stk m B0 A l s'.heap where
  stack := k.stack
  md := k.md
  stays := fun b o e => t.keep b o (fun q => by rw [(k.frames.mem q).1] at e; cases e) (fun q => by rw [q, k.hideP] at e; cases e) (k.stays b o e)
  frames := k.frames.of_keeps fun b o e hd => let ⟨_, q⟩ := t.slots b o e hd; ⟨_, q, rfl⟩
  hideP := k.hideP
  tbl := t.tbl k.tbl
structure Thrown (m : Mod) (l : List Env) (e : Addr) (cls : Value) (s s' : Shared) : Prop where
  same : ∃ h tk g, s' = { s with heap := h, toks := tk, gens := g }
  bare : AllBare s.gens → AllBare s'.gens
  fly : ∃ B a0, (∀ b o, b ∉ frs l → b ≠ m.tp → s.heap.get? b = some o → B.get? b = some o) ∧ (m.Tbl s.heap → m.Tbl B) ∧ Heap.FlyingW B l e cls a0 s'.heap
  slots : s.heap.UpToSlots s'.heap
inductive Outc where
  | ret (d : PyData)
  | exc (cls : Value)
noncomputable def PostO (m : Mod) (l : List Env) (s : Shared) (fp : List Addr) (Q E : Value → Shared → Prop) : Outc → Prop
  | .ret d => ∀ v s' fp', LStep m l s s' → Rd s'.heap v d fp' → (∀ z ∈ fp', z ∈ fp ∨ s.heap.get? z = none) → Q v s'
  | .exc cls => ∀ e s', Thrown m l e cls s s' → E (.ref e) s'
noncomputable def LSpec (prog : Program) (w : World) (m : Mod) (B0 : Heap) (n f : Nat) (xs : List PyData) (o : Outc) : Prop :=
  ∀ x a, m.fns[f]? = some (x, a) → ∀ A s vs fp l, AOk n A → Stk m B0 A l s.heap → AllBare s.gens → Rds s.heap vs xs fp → (∀ z ∈ fp, z ∉ frs l) → ∀ (Q E : Value → Shared → Prop), PostO m l s fp Q E o → wpAny (model prog w) A (call (.ref a) vs) Q E s
theorem LSpec.of_call {prog : Program} {w : World} {m : Mod} {B0 : Heap} {n f : Nat} {xs : List PyData} {d : PyData} {Φ : Nat → List PyData → Option PyData} (h : CallOk prog w m Φ n) (e : Φ f xs = some d) : LSpec prog w m B0 n f xs (.ret d) :=
  fun x a hf A s vs fp l hA K hb hr hn Q E hQ => h f xs d e x a hf A s vs fp hA K.md' hr Q E fun v s' fp' kp r sub _ => hQ v s' fp' (.of_keeps kp) r sub
structure LOk (m : Mod) (B0 : Heap) (c : Cx) (l : List Env) : Prop where
  stack : c.A.frames = some (c.env :: l)
  frame : c.env.frame = some c.env.locals
  md : m.In B0
  stays : B0.StaysIn c.h0
  outer : c.h0.FunFrames B0 l
  args : ∀ a ∈ c.args, a ∉ frs l
  hideP : B0.get? m.tp = none
  tbl : m.Tbl c.h0
  argsP : m.tp ∉ c.args
theorem rds_not_fields {h : Heap} {I : Addr} {o : Obj} {ws : Array Value} (hI : h.get? I = some o) (hd : o.data = .fields ws) {vs : List Value} {ds : List PyData} {fp : List Addr} (r : Rds h vs ds fp) : I ∉ fp := (not_fields hI hd).2 r
noncomputable def SameDom (c : Cx) (h : Heap) : Prop := ∀ a, h.get? a = none ↔ c.h0.get? a = none
theorem SameDom.u {c : Cx} {h : Heap} (x : SameDom c h) (a : Addr) : Cx.U { c with h0 := h } a ↔ c.U a := by
  show (a ∉ c.fixed ∧ (h.get? a = none ∨ a ∈ c.args)) ↔ _
  rw [x a]; rfl
structure LS (m : Mod) (c : Cx) (l : List Env) (W : List Addr) (s s' : Shared) (W' : List Addr) : Prop where
  same : ∃ h tk g, s' = { s with heap := h, toks := tk, gens := g }
  bare : AllBare s.gens → AllBare s'.gens
  keep : ∀ b o, b ∉ c.fixed → b ∉ W → b ∉ frs l → b ≠ m.tp → s.heap.get? b = some o → s'.heap.get? b = some o
  slot : ∀ b o, b ∈ frs l → s.heap.get? b = some o → (∀ vs, o.data ≠ .fields vs) → ∃ sl, s'.heap.get? b = some { o with slots := sl }
  grow : ∀ a ∈ W', a ∈ W ∨ s.heap.get? a = none
  fix : ∀ b ∈ c.fixed, ∃ o, s'.heap.get? b = some o
  tbl : m.Tbl s.heap → m.Tbl s'.heap
section
variable {prog : Program} {w : World} {m : Mod} {B0 : Heap} {n : Nat} {c : Cx} {l : List Env} {W W' : List Addr} {σ : Store} {s s' : Shared} {ck : Ck}
theorem LOk.notU (k : CxOk m n c) (o : LOk m B0 c l) {a : Addr} (u : c.U a) : a ∉ frs l := fun q => by
  obtain ⟨_, ob, h2, _⟩ := o.outer.mem q
  rcases u.2 with h | h
  · rw [h2] at h; cases h
  · exact o.args a h q
theorem LOk.notP (o : LOk m B0 c l) {a : Addr} (u : c.U a) : a ≠ m.tp := fun q => by
  obtain ⟨op, _, e, _⟩ := o.tbl.p
  rcases u.2 with h | h
  · rw [q, e] at h; cases h
  · exact o.argsP (q ▸ h)
theorem LOk.notFixed (k : CxOk m n c) (o : LOk m B0 c l) {a : Addr} (q : a ∈ frs l) : a ∉ c.fixed := fun h => by
  obtain ⟨_, ob, h2, _⟩ := o.outer.mem q
  rw [k.new a h] at h2; cases h2
theorem LOk.notW (k : CxOk m n c) (o : LOk m B0 c l) (S : Sat m c σ W s) {a : Addr} (q : a ∈ frs l) : a ∉ W := fun h => by
  obtain ⟨_, ob, h2, _⟩ := o.outer.mem q
  rw [(S.w a h).1] at h2; cases h2
theorem LS.of_step (k : CxOk m n c) (o : LOk m B0 c l) (S : Sat m c σ W s) (t : Step c W s s' W') : LS m c l W s s' W' where
  same := by obtain ⟨h, tk, rfl⟩ := t.same; exact ⟨h, tk, s.gens, rfl⟩
  bare := by obtain ⟨h, tk, rfl⟩ := t.same; exact id
  keep := fun b ob h1 h2 _ _ e => t.keep b ob h1 h2 e
  slot := fun b ob h e _ => ⟨ob.slots, t.keep b ob (o.notFixed k h) (o.notW k S h) e⟩
  grow := t.grow
  fix := t.fix
  tbl := fun x => by
    obtain ⟨op, vp, e1, d1⟩ := o.tbl.p
    obtain ⟨oc, vc, e2, d2⟩ := o.tbl.c
    have h0 : ∀ b ob, c.h0.get? b = some ob → b ∉ c.fixed ∧ b ∉ W := fun b ob e => ⟨fun q => (by rw [k.new b q] at e; cases e), fun q => (by rw [(S.w b q).1] at e; cases e)⟩
    exact x.at2 (fun o e => t.keep _ o (h0 _ _ e1).1 (h0 _ _ e1).2 e) (fun o e => t.keep _ o (h0 _ _ e2).1 (h0 _ _ e2).2 e)
structure OutAt (m : Mod) (l : List Env) (s : Shared) : Prop where
  fr : ∀ x ∈ frs l, ∃ o, s.heap.get? x = some o ∧ ∀ vs, o.data ≠ .fields vs
  tbl : m.Tbl s.heap
theorem LS.trans {W'' : List Addr} {s'' : Shared} (a : LS m c l W s s' W') (b : LS m c l W' s' s'' W'') (hn : OutAt m l s) : LS m c l W s s'' W'' where
  same := by
    obtain ⟨h, tk, g, rfl⟩ := a.same
    obtain ⟨h', tk', g', rfl⟩ := b.same
    exact ⟨h', tk', g', rfl⟩
  bare := fun x => b.bare (a.bare x)
  keep := fun x o h1 h2 h3 h4 e => b.keep x o h1 (fun q => (a.grow x q).elim h2 fun z => by rw [z] at e; cases e) h3 h4 (a.keep x o h1 h2 h3 h4 e)
  slot := fun x o h e hd => by
    obtain ⟨sl, q⟩ := a.slot x o h e hd
    obtain ⟨sl', q'⟩ := b.slot x _ h q hd
    exact ⟨sl', q'⟩
  grow := fun x hx => by
    rcases b.grow x hx with q | q
    · exact a.grow x q
    · cases e : s.heap.get? x with
      | none => exact .inr rfl
      | some o =>
        refine .inl (Classical.byContradiction fun hw => ?_)
        by_cases hf : x ∈ c.fixed
        · obtain ⟨o', e'⟩ := a.fix x hf; rw [q] at e'; cases e'
        · by_cases hl : x ∈ frs l
          · obtain ⟨o', e1, e2⟩ := hn.fr x hl
            obtain ⟨sl, q'⟩ := a.slot x o' hl e1 e2
            rw [q] at q'; cases q'
          · by_cases hp : x = m.tp
            · obtain ⟨o', _, e1, _⟩ := (a.tbl hn.tbl).p
              rw [← hp, q] at e1; cases e1
            · have := a.keep x o hf hw hl hp e; rw [q] at this; cases this
  fix := b.fix
  tbl := fun x => b.tbl (a.tbl x)
theorem Sat.stk (k : CxOk m n c) (o : LOk m B0 c l) (S : Sat m c σ W s) : Stk m B0 c.A (c.env :: l) s.heap where
  stack := o.stack
  md := o.md
  stays := fun b ob e => S.keep b ob (o.stays b ob e)
  frames := by
    refine ⟨by rw [k.hk]; decide, ?_, o.outer.of_keeps fun b ob e _ => ⟨ob, S.keep b ob e, rfl⟩⟩
    obtain ⟨ml, ob, es, ep, e, d, _⟩ := S.ns
    refine ⟨c.env.locals, ob, o.frame, ?_, e, fun vs q => by rw [d] at q; cases q⟩
    cases q : B0.get? c.env.locals with
    | none => rfl
    | some ob' =>
      have h1 := o.stays _ _ q
      have h2 : c.h0.get? c.env.locals = none := k.new _ (.head _)
      rw [h2] at h1; cases h1
  hideP := o.hideP
  tbl := o.tbl.keeps S.keep
theorem Sat.outerAt (o : LOk m B0 c l) (S : Sat m c σ W s) : OutAt m l s := ⟨fun x hx => by
  obtain ⟨_, ob, e, d⟩ := o.outer.mem hx
  exact ⟨ob, S.keep _ _ e, d⟩, o.tbl.keeps S.keep⟩
noncomputable def cut (d h : Heap) : Heap := hideAll h ((List.range h.objs.size).filter fun b => (d.get? b).isNone)
theorem cut_get {d h : Heap} {b : Addr} : (cut d h).get? b = if (d.get? b).isNone then none else h.get? b := by
  unfold cut
  by_cases hd : (d.get? b).isNone
  · rw [if_pos hd]
    by_cases hb : b < h.objs.size
    · exact hideAll_none _ (List.mem_filter.mpr ⟨List.mem_range.mpr hb, hd⟩)
    · cases q : (hideAll h ((List.range h.objs.size).filter fun b => (d.get? b).isNone)).get? b with
      | none => rfl
      | some o => exact absurd (Heap.lt_size (of_hideAll _ q)) hb
  · rw [if_neg hd]
    cases q : h.get? b with
    | none =>
      cases q' : (hideAll h ((List.range h.objs.size).filter fun b => (d.get? b).isNone)).get? b with
      | none => rfl
      | some o => rw [of_hideAll _ q'] at q; cases q
    | some o => exact hideAll_get _ q fun z => hd (List.mem_filter.mp z).2
noncomputable def Cx.at (c : Cx) (h : Heap) : Cx := { c with h0 := cut c.h0 h }
theorem varAt_slots {env : Env} {h h' : Heap} {x : Str} {v : Value} (V : VarAt env h x v) (k : h.UpToSlots h') : VarAt env h' x v := by
  rcases V with ⟨h1, ml, h2, h3⟩ | ⟨h1, a, h2, o, e, d⟩
  · exact .inl ⟨h1, ml, k.ns h2, h3⟩
  · obtain ⟨sl, q⟩ := k a o e fun vs q => by rw [d] at q; cases q
    exact .inr ⟨h1, a, h2, _, q, d⟩
theorem Sat.loose (k : CkxOk m n ck c) (o : LOk m B0 c l) (S : Sat m c σ W s) (t : LStep m (c.env :: l) s s') :
    CkxOk m n ck (c.at s'.heap) ∧ LOk m B0 (c.at s'.heap) l ∧ Sat m (c.at s'.heap) σ W s' ∧ SameDom c (c.at s'.heap).h0 ∧ LS m c l W s s' W := by
  have hfr : frs (c.env :: l) = c.env.locals :: frs l := by unfold frs; rw [List.filterMap_cons, o.frame]
  have K := S.stk k.cx o
  have K' := K.step t
  have none_iff : ∀ a, (c.at s'.heap).h0.get? a = none ↔ c.h0.get? a = none := by
    intro a
    show (cut c.h0 s'.heap).get? a = none ↔ _
    rw [cut_get]
    constructor
    · intro h
      split at h
      · rename_i q; exact Option.isNone_iff_eq_none.mp q
      · rename_i q
        cases e : c.h0.get? a with
        | none => rfl
        | some ob =>
          exfalso
          have e2 := S.keep a ob e
          by_cases hf : a ∈ frs (c.env :: l)
          · obtain ⟨_, ob', e3, _⟩ := K'.frames.mem hf
            rw [h] at e3; cases e3
          · by_cases hp : a = m.tp
            · obtain ⟨o', _, e4, _⟩ := K'.tbl.p
              rw [hp, e4] at h; cases h
            · rw [t.keep a ob hf hp e2] at h; cases h
    · intro h; rw [if_pos (by rw [h]; rfl)]
  have hU : ∀ a, (c.at s'.heap).U a ↔ c.U a := by
    intro a
    show (a ∉ c.fixed ∧ ((c.at s'.heap).h0.get? a = none ∨ a ∈ c.args)) ↔ _
    rw [none_iff]; rfl
  have keepB : B0.StaysIn (c.at s'.heap).h0 := by
    intro b ob e
    show (cut c.h0 s'.heap).get? b = _
    rw [cut_get, if_neg (by rw [o.stays b ob e]; simp)]
    exact K'.stays b ob e
  have hcx : CxOk m n (c.at s'.heap) := by
    refine ⟨o.md.keeps keepB, k.cx.A, k.cx.hk, k.cx.hg, k.cx.hb, k.cx.nd, k.cx.kind, k.cx.apart, k.cx.off, fun a ha => (none_iff a).mpr (k.cx.new a ha)⟩
  have fixNF : ∀ a ∈ c.fixed, a ∉ frs l := fun a ha q => o.notFixed k.cx q ha
  have keepNL : ∀ b ob, b ≠ c.env.locals → b ∉ frs l → b ≠ m.tp → s.heap.get? b = some ob → s'.heap.get? b = some ob := fun b ob h1 h2 h3 e => t.keep b ob (by rw [hfr]; intro q; exact (List.mem_cons.mp q).elim h1 h2) h3 e
  have hlocF : c.env.locals ∈ c.fixed := .head _
  have rdKeep : ∀ {v d fp}, Rd s.heap v d fp → (∀ a ∈ fp, c.U a) → Rd s'.heap v d fp := fun r u => r.at fun a ha ob e => keepNL a ob (fun q => (u a ha).1 (q ▸ hlocF)) (o.notU k.cx (u a ha)) (fun q => by obtain ⟨op, vp, e1, d1⟩ := K.tbl.p; exact rd_not_fields e1 d1 r (q ▸ ha)) e
  have hns : ∃ ml, s'.heap.Ns c.env.locals ml := let ⟨ml, h⟩ := S.ns; ⟨ml, t.slots.ns h⟩
  have hcell : ∀ p ∈ c.env.cells, ∃ v, s'.heap.IsCell p.2 v := fun p hp => by
    obtain ⟨v, ob, e, d⟩ := S.cell p hp
    obtain ⟨sl, q⟩ := t.slots p.2 ob e fun vs q => by rw [d] at q; cases q
    exact ⟨v, _, q, d⟩
  have hfix : ∀ b ∈ c.fixed, ∃ o, s'.heap.get? b = some o := by
    intro b hb
    rcases List.mem_cons.mp hb with rfl | hb
    · obtain ⟨_, o, _, _, e, _⟩ := hns; exact ⟨o, e⟩
    · obtain ⟨p, hp, rfl⟩ := List.mem_map.mp hb
      obtain ⟨_, o, e, _⟩ := hcell p hp; exact ⟨o, e⟩
  have hnone : ∀ a, s'.heap.get? a = none → s.heap.get? a = none := by
    intro a e
    cases q : s.heap.get? a with
    | none => rfl
    | some ob =>
      by_cases hf : a ∈ frs (c.env :: l)
      · obtain ⟨_, ob', e3, _⟩ := K'.frames.mem hf
        rw [e] at e3; cases e3
      · by_cases hp : a = m.tp
        · obtain ⟨o', _, e4, _⟩ := K'.tbl.p
          rw [hp, e4] at e; cases e
        · rw [t.keep a ob hf hp q] at e; cases e
  have hvals : ∀ i d, σ.get i = some d → ValsAt (c.ce W) s' i d := by
    intro i d e
    obtain ⟨x, v, fp, h1, h2, h3, h4, h5, h6⟩ := S.e.vals i d e
    exact ⟨x, v, fp, h1, varAt_slots h2 t.slots, rdKeep h3 h4, h4, h5, h6⟩
  refine ⟨⟨hcx, fun W => ⟨(k.ce W).names, (k.ce W).kind, hcx.envOk W, (k.ce W).A, (k.ce W).own, (k.ce W).fns, (k.ce W).twos, (k.ce W).cells⟩⟩, ⟨o.stack, o.frame, o.md, keepB, ?_, o.args, o.hideP, ?_, o.argsP⟩, ⟨S.len, ⟨K'.md', fun a e => ⟨(hU a).mpr (S.e.fresh a (hnone a e)).1, (S.e.fresh a (hnone a e)).2⟩, fun i d e => ?_⟩, hns, hcell, ?_, ?_, ?_⟩, none_iff, ?_⟩
  · -- FunFrames
    have key : ∀ (l' : List Env), (∀ b ∈ frs l', b ∈ frs l) → s'.heap.FunFrames B0 l' → (c.at s'.heap).h0.FunFrames B0 l' := by
      intro l'
      induction l' with
      | nil => intro _ _; trivial
      | cons env r ih =>
        intro hin hf
        obtain ⟨hk, ⟨L, ob, hf1, hn, ho, hd⟩, hr⟩ := hf
        have hmem : ∀ b, b ∈ frs r → b ∈ frs (env :: r) := fun b hb => by unfold frs; rw [List.filterMap_cons, hf1]; exact .tail _ hb
        refine ⟨hk, ⟨L, ob, hf1, hn, ?_, hd⟩, ih (fun b hb => hin b (hmem b hb)) hr⟩
        have hL : L ∈ frs l := hin L (by unfold frs; rw [List.filterMap_cons, hf1]; exact .head _)
        obtain ⟨_, ob', h2, _⟩ := o.outer.mem hL
        show (cut c.h0 s'.heap).get? L = _
        rw [cut_get, if_neg (by rw [h2]; simp)]; exact ho
    exact key l (fun _ h => h) K'.frames.2.2
  · obtain ⟨op, vp, e1, d1⟩ := o.tbl.p
    obtain ⟨oc, vc, e2, d2⟩ := o.tbl.c
    have cp : ∀ ob, s'.heap.get? m.tp = some ob → (cut c.h0 s'.heap).get? m.tp = some ob := fun ob e => by rw [cut_get, if_neg (by rw [e1]; simp)]; exact e
    have cc : ∀ ob, s'.heap.get? m.tc = some ob → (cut c.h0 s'.heap).get? m.tc = some ob := fun ob e => by rw [cut_get, if_neg (by rw [e2]; simp)]; exact e
    exact K'.tbl.at2 cp cc
  · obtain ⟨x, v, fp, h1, h2, h3, h4, h5, h6⟩ := hvals i d e
    exact ⟨x, v, fp, h1, h2, h3, fun a ha => (hU a).mpr (h4 a ha), h5, h6⟩
  · intro b ob e
    have e' : (cut c.h0 s'.heap).get? b = some ob := e
    rw [cut_get] at e'
    split at e'
    · cases e'
    · exact e'
  · intro a ha
    obtain ⟨h1, h2, ob, h3⟩ := S.w a ha
    exact ⟨(none_iff a).mpr h1, h2, ob, keepNL a ob (fun q => h2 (q ▸ hlocF)) (fun q => o.notW k.cx S q ha) (fun q => by obtain ⟨op, vp, e1, d1⟩ := o.tbl.p; rw [← q, h1] at e1; cases e1) h3⟩
  · intro i hi j hj hij d d' e1 e2 x y a hx hy V1 V2
    obtain ⟨x', v1, _, p1, q1, _⟩ := S.e.vals i d e1
    obtain ⟨y', v2, _, p2, q2, _⟩ := S.e.vals j d' e2
    have p1' : c.names[i]? = some x' := p1
    have p2' : c.names[j]? = some y' := p2
    have hx' : c.names[i]? = some x := hx
    have hy' : c.names[j]? = some y := hy
    rw [hx'] at p1'; cases p1'
    rw [hy'] at p2'; cases p2'
    have r1 := VarAt.unique V1 (varAt_slots (env := c.env) q1 t.slots)
    have r2 := VarAt.unique V2 (varAt_slots (env := c.env) q2 t.slots)
    subst r1 r2
    exact S.sep i hi j hj hij d d' e1 e2 x y a hx' hy' q1 q2
  · refine ⟨t.same, t.bare, fun b ob h1 _ h3 h4 e => keepNL b ob (fun q => h1 (q ▸ hlocF)) h3 h4 e, fun b ob _ e hd => t.slots b ob e hd, fun a h => .inl h, hfix, t.tbl⟩
end
end Mine

namespace Mine
open PySem PyProof.Rows PySem.W
set_option autoImplicit false
set_option maxRecDepth 10000
structure ThrownB (m : Mod) (c : Cx) (l : List Env) (W : List Addr) (e : Addr) (cls : Value) (s s' : Shared) : Prop where
  same : ∃ h tk g, s' = { s with heap := h, toks := tk, gens := g }
  bare : AllBare s.gens → AllBare s'.gens
  fly : ∃ B a0, (∀ b o, b ∉ c.fixed → b ∉ W → b ∉ frs l → b ≠ m.tp → s.heap.get? b = some o → B.get? b = some o) ∧ (m.Tbl s.heap → m.Tbl B) ∧ Heap.FlyingW B l e cls a0 s'.heap
  slot : ∀ b o, b ∈ frs l → s.heap.get? b = some o → (∀ vs, o.data ≠ .fields vs) → ∃ sl, s'.heap.get? b = some { o with slots := sl }
noncomputable def PostB (prog : Program) (w : World) (m : Mod) (c : Cx) (l : List Env) (W : List Addr) (s : Shared) (Q : Flow → Shared → Prop) (E : Value → Shared → Prop) : Outc → Prop
  | .ret d => ∀ v s' W' fp, Rd s'.heap v d fp → (∀ a ∈ fp, c.U a) → LS m c l W s s' W' → Q (.ret v) s'
  | .exc cls => ∀ e s', (∀ (QL : Unit → Shared → Prop) (EL : Value → Shared → Prop), (∀ s'', ThrownB m c l W e cls s s'' → QL () s'') → wpAny (model prog w) c.A (leaving c.env (.ref e)) QL EL s') → E (.ref e) s'
section
variable {prog : Program} {w : World} {m : Mod} {B0 : Heap} {n : Nat} {c : Cx} {l : List Env} {W W' : List Addr} {σ : Store} {s s' : Shared} {ck : Ck} {Φ : Nat → List PyData → Option PyData}
theorem LS.re {c' : Cx} (e : c'.fixed = c.fixed) (t : LS m c' l W s s' W') : LS m c l W s s' W' := ⟨t.same, t.bare, e ▸ t.keep, t.slot, t.grow, e ▸ t.fix, t.tbl⟩
theorem LSpec.of_body (hm : m.Ok) {fns : List Str} (ht : TabOk m fns) {f : Nat} {sp : FnSpec} (hsp : m.specs[f]? = some sp) {xs : List PyData} {o : Outc} (hlen : xs.length = sp.fd.np) (hpro : sp.fd.pro = [])
    (h : ∀ c l s (Q : Flow → Shared → Prop) (E : Value → Shared → Prop), CkxOk m n (spCk fns m.twos sp) c → LOk m B0 c l → Sat m c (startStore sp.fd xs) [] s → AllBare s.gens → (∀ x a, m.fns[f]? = some (x, a) → ∃ ob fdd, B0.get? a = some ob ∧ ob.data = .func fdd ∧ c.env.code = fdd.code) → PostB prog w m c l [] s Q E o → wpAny (model prog w) c.A (execs sp.body c.env) Q E s) :
    LSpec prog w m B0 (n + 1) f xs o := by
  intro x a hf A s vs fp l hA K hb hr hn Q E hQ
  have hok := ht.ok f sp hsp
  simp only [spOk, Bool.and_eq_true, decide_eq_true_eq] at hok
  obtain ⟨⟨⟨⟨h0, hown⟩, hnd⟩, hc⟩, h2⟩ := hok
  have hat := K.md'.code f x a sp hf hsp
  have hb0 : sp.base = sp := by
    unfold FnSpec.base
    rw [hpro]; simp
  refine wpAny_call (enter_fn (n := n) hA (hb0 ▸ h0) K.md' hat hr hlen fun fdd s₁ hfo hsc kk hcx hck S => ?_)
  have hb₁ : AllBare s₁.gens := by obtain ⟨h, tk, rfl, _⟩ := kk; exact hb
  have hfr : frs (callEnvC fdd s.heap.objs.size a :: l) = s.heap.objs.size :: frs l := rfl
  have lo : LOk m B0 (fnCx A fdd s a sp fp) l := ⟨Around.frames_deeper K.stack, rfl, K.md, K.stays, K.frames, hn, K.hideP, K.tbl, let ⟨_, _, e, d⟩ := K.tbl.p; rds_not_fields e d hr⟩
  have hin : ∀ b ob, s.heap.get? b = some ob → b ∉ (fnCx A fdd s a sp fp).fixed := fun b ob e q => by
    have z : s.heap.get? b = none := hcx.new b q
    rw [z] at e; cases e
  refine h _ l s₁ _ _ (hck fns m.twos ht.fn rfl) lo S hb₁ (fun x' a' hf' => ?_) ?_
  · rw [hf] at hf'; cases hf'
    obtain ⟨ob, hob, hod⟩ := hfo
    obtain ⟨ob', fd', e1, e2⟩ := K.md.fn x a (List.mem_of_getElem? hf)
    have := K.stays _ _ e1
    rw [hob] at this; cases this
    exact ⟨ob, fdd, e1, hod, rfl⟩
  obtain ⟨h₁, tk₁, rfl, kp₁⟩ := kk
  cases o with
  | ret d =>
    intro v s' W' fp' r u t
    refine hQ v s' fp' ⟨?_, fun x => t.bare x, fun b ob hbl hp e => t.keep b ob (hin b ob e) (fun q => (nomatch q)) hbl hp (kp₁ b ob e), ?_, fun x => t.tbl (x.keeps kp₁)⟩ r fun z hz => (u z hz).2.symm
    · obtain ⟨h, tk, g, rfl⟩ := t.same; exact ⟨h, tk, g, rfl⟩
    · intro b ob e hd
      by_cases hbl : b ∈ frs l
      · exact t.slot b ob hbl (kp₁ b ob e) hd
      · exact ⟨ob.slots, t.keep b ob (hin b ob e) (fun q => (nomatch q)) hbl (fun q => by obtain ⟨op, vp, e1, d1⟩ := K.tbl.p; rw [← q, e] at e1; cases e1; exact hd _ d1) (kp₁ b ob e)⟩
  | exc cls =>
    intro e s' hL
    refine hL _ _ fun s'' t => hQ e s'' ?_
    obtain ⟨B, a0, k1, kt, k2⟩ := t.fly
    refine ⟨?_, fun x => t.bare x, ⟨B, a0, fun b ob hbl hp e => k1 b ob (hin b ob e) (fun q => (nomatch q)) hbl hp (kp₁ b ob e), fun x => kt (x.keeps kp₁), k2⟩, ?_⟩
    · obtain ⟨h, tk, g, rfl⟩ := t.same; exact ⟨h, tk, g, rfl⟩
    · intro b ob e hd
      by_cases hbl : b ∈ frs l
      · exact t.slot b ob hbl (kp₁ b ob e) hd
      · exact ⟨ob.slots, k2.1 b ob (k1 b ob (hin b ob e) (fun q => (nomatch q)) hbl (fun q => by obtain ⟨op, vp, e1, d1⟩ := K.tbl.p; rw [← q, e] at e1; cases e1; exact hd _ d1) (kp₁ b ob e))⟩
theorem leave_made (k : CxOk m n c) (o : LOk m B0 c l) {s₀ : Shared} {W₀ : List Addr} (S : Sat m c σ W s) (t : LS m c l W₀ s₀ s W) {e : Addr} {cls : Value} {args : List Value} {h' : Heap} (hx : Heap.MadeExcOf s.heap h' e cls args)
    (QL : Unit → Shared → Prop) (EL : Value → Shared → Prop) (hQ : ∀ s'', ThrownB m c l W₀ e cls s₀ s'' → QL () s'') : wpAny (model prog w) c.A (leaving c.env (.ref e)) QL EL { s with heap := h' } := by
  have K := S.stk k o
  have hfr : frs (c.env :: l) = c.env.locals :: frs l := by unfold frs; rw [List.filterMap_cons, o.frame]
  refine wpAny_leaves_madeW (base := hideAll s.heap (frs (c.env :: l))) (h := s.heap) o.stack o.frame (fun b ob e => of_hideAll _ e) (funFrames_hide K.frames fun env he a ha => List.mem_filterMap.mpr ⟨env, he, ha⟩) hx fun h₂ tt fl _ _ us => hQ _ ?_
  obtain ⟨h1, tk, g, rfl⟩ := t.same
  refine ⟨⟨h₂, tk, g, rfl⟩, t.bare, ⟨_, _, fun b ob h1 h2 h3 h4 e => hideAll_get (frs (c.env :: l)) (t.keep b ob h1 h2 h3 h4 e) ?_, fun x => (t.tbl x).at fun b ob vs e hd => hideAll_get _ e fun q => (K.frames.mem q).2.elim fun o' z => ?_, fl⟩, fun b ob hb e hd => ?_⟩
  · rw [hfr]; intro q
    rcases List.mem_cons.mp q with rfl | q
    · exact h1 (.head _)
    · exact h3 q
  · have z1 := z.1
    have e' : h1.get? b = some ob := e
    have z1' : h1.get? b = some o' := z1
    rw [e'] at z1'; cases z1'
    exact z.2 _ hd
  · obtain ⟨sl, q⟩ := t.slot b ob hb e hd
    have q2 := hx.keeps b _ q
    have q3 := us b _ q2 hd
    obtain ⟨sl2, q4⟩ := q3
    exact ⟨sl2, q4⟩
theorem leave_on (k : CxOk m n c) (o : LOk m B0 c l) {s₀ : Shared} {W₀ : List Addr} (t : LS m c l W₀ s₀ s W) {e : Addr} {cls : Value} (x : Thrown m (c.env :: l) e cls s s')
    (QL : Unit → Shared → Prop) (EL : Value → Shared → Prop) (hQ : ∀ s'', ThrownB m c l W₀ e cls s₀ s'' → QL () s'') : wpAny (model prog w) c.A (leaving c.env (.ref e)) QL EL s' := by
  have hfr : frs (c.env :: l) = c.env.locals :: frs l := by unfold frs; rw [List.filterMap_cons, o.frame]
  obtain ⟨B, a0, k1, kt, k2⟩ := x.fly
  refine wpAny_leaves_onW o.stack o.frame k2 fun h₂ fl us => hQ _ ?_
  obtain ⟨h1, tk, g, rfl⟩ := t.same
  obtain ⟨h3, tk3, g3, rfl⟩ := x.same
  refine ⟨⟨h₂, _, _, rfl⟩, fun z => x.bare (t.bare z), ⟨B, a0, fun b ob h1 h2 h3 h4 e => k1 b ob ?_ h4 (t.keep b ob h1 h2 h3 h4 e), fun z => kt (t.tbl z), fl⟩, fun b ob hb e hd => ?_⟩
  · rw [hfr]; intro q
    rcases List.mem_cons.mp q with rfl | q
    · exact h1 (.head _)
    · exact h3 q
  · obtain ⟨sl, q⟩ := t.slot b ob hb e hd
    obtain ⟨sl', q'⟩ := x.slots b _ q hd
    have q3 := us b _ q' hd
    obtain ⟨sl2, q4⟩ := q3
    exact ⟨sl2, q4⟩
theorem lcall (hm : m.Ok) (hΦ : CallOk prog w m Φ n) (k : CkxOk m n ck c) (o : LOk m B0 c l) (S : Sat m c σ W s) (hb : AllBare s.gens) {f : Nat} {es : PEs} {e : Expr} (hck : chkE ck (.call f es) e = true) {xs : List PyData} (hxs : denEs Φ es σ = some xs) {out : Outc} (L : LSpec prog w m B0 n f xs out)
    {Q E : Value → Shared → Prop}
    (h : match out with
      | .ret d => ∀ v s' fp, LStep m (c.env :: l) s s' → Rd s'.heap v d fp → (∀ z ∈ fp, c.U z) → (es.clean c.own = true → ∀ z ∈ fp, z ∉ W) → Q v s'
      | .exc cls => ∀ a s', Thrown m (c.env :: l) a cls s s' → E (.ref a) s') : wpAny (model prog w) c.A (eval e c.env) Q E s := by
  obtain ⟨x, np, y, ys, p, h1, h2, h3, h4⟩ := callE_inv hck
  · obtain ⟨fa, hf⟩ := (k.ce W).fns f x h1
    have ho := k.cx.envOk W
    have hmem : (x, fa) ∈ m.fns := List.mem_of_getElem? hf
    obtain ⟨ob, fd, ho1, ho2⟩ := S.e.md.fn x fa hmem
    have hst := star_of (chkEs_head h4)
    refine Call_ (Calls.Name_function_global ho.hk (glob_of (k.ce W) h2) (Calls.loadGlobal_global (by rw [show c.env.globals = mainGlobals from ho.hg]; exact S.e.md.g) (hm.fn x fa hmem) ?_) (tame_parts h3).2)
    have he : starEach (y :: ys) c.env = (false, eval y c.env) :: starEach ys c.env := by
      cases y <;> first | rfl | exact absurd rfl (hst _ _)
    refine callWith_def ho2 (soundEs hm hΦ es (y :: ys) ck (c.ce W) (k.ce W) h4 p σ xs s hxs S.e _ E fun vs s' fp os => ⟨Keeps.keep os.kp _ _ ho1, ?_⟩) he
    have S' := S.mono os.kp
    have hfr : frs (c.env :: l) = c.env.locals :: frs l := by unfold frs; rw [List.filterMap_cons, o.frame]
    have hb' : AllBare s'.gens := by obtain ⟨_, _, rfl, _⟩ := os.kp; exact hb
    refine L x fa hf c.A s' vs fp (c.env :: l) k.cx.A (S'.stk k.cx o) hb' os.rd (fun z hz => ?_) Q E ?_
    · rw [hfr]; intro q
      have u : c.U z := os.u z hz
      rcases List.mem_cons.mp q with rfl | q
      · exact u.1 (.head _)
      · exact o.notU k.cx u q
    · cases out with
      | ret d =>
        intro v s'' fp' t r sub
        refine h v s'' fp' ((LStep.of_keeps os.kp).trans t) r (fun z hz => ?_) fun hcl z hz => ?_
        · exact (sub z hz).elim (os.u z) fun q => (S'.e.fresh z q).1
        · exact (sub z hz).elim (os.cl hcl z) fun q => (S'.e.fresh z q).2
      | exc cls =>
        intro a s'' t
        obtain ⟨B, a0, k1, kt, k2⟩ := t.fly
        obtain ⟨h1, tk1, e1, kp1⟩ := os.kp
        subst e1
        obtain ⟨h2, tk2, g2, e2⟩ := t.same
        subst e2
        exact h a _ ⟨⟨h2, tk2, g2, rfl⟩, t.bare, ⟨B, a0, fun b ob hbl hp e => k1 b ob hbl hp (kp1 b ob e), fun x => kt (x.keeps kp1), k2⟩, (Heap.UpToSlots.of_keeps kp1).trans t.slots⟩
theorem lassign (k : CkxOk m n ck c) (o : LOk m B0 c l) (S : Sat m c σ W s) (t : LStep m (c.env :: l) s s') {i : Nat} {x : Str} (hi : c.names[i]? = some x) (hno : i ∉ c.own) {v : Value} {d : PyData} {fp : List Addr} (r : Rd s'.heap v d fp) (u : ∀ z ∈ fp, c.U z) (hcl : ∀ z ∈ fp, z ∉ W)
    {A : Around} {Q : Unit → Shared → Prop} {E : Value → Shared → Prop}
    (h : ∀ s'' h0, CkxOk m n ck { c with h0 := h0 } → LOk m B0 { c with h0 := h0 } l → Sat m { c with h0 := h0 } (σ.set i (some d)) W s'' → SameDom c h0 → LS m c l W s s'' W → s''.gens = s'.gens → Q () s'') :
    wpAny (model prog w) A (storeName c.env x v) Q E s' := by
  obtain ⟨k', o', S', hU, t'⟩ := S.loose k o t
  refine store_var' (c := c.at s'.heap) k'.cx S' (Keeps.rfl' s') (List.mem_of_getElem? hi) fun h' tk st kp => ?_
  have r' : Rd h' v d fp := r.at fun a ha ob q => kp a ob (u a ha).1 q
  have := S'.assign k'.cx ⟨s'.heap, s'.toks, rfl⟩ hi (tk := tk) r' (fun a ha => (hU.u a).mpr (u a ha)) st hno hcl
  refine h _ _ k' o' this.1 hU (t'.trans (LS.re (c' := c.at s'.heap) rfl (LS.of_step (c := c.at s'.heap) k'.cx o' S' this.2)) (S.outerAt o)) rfl
end
end Mine

namespace Mine
open PySem PyProof.Rows PySem.W
set_option autoImplicit false
set_option maxRecDepth 10000
noncomputable def oomX : Str := Str.ofString "OutOfMemory"
noncomputable def oomBm : List Value := [.type "Exception", .type "BaseException", .type "object"]
noncomputable abbrev Own (m : Mod) (B0 : Heap) (C : Addr) : Prop := OwnClsQ oomX C oomBm "Exception.__new__" m.mg B0
theorem exc_isExc_ValueError : isSubtype (.type "ValueError") (.type "BaseException") = pure true := by rw [isSubtype_type]; kernel_rfl
theorem exc_notTuple_ValueError : isSubtype (.type ((Manifest.find? "ValueError").elim "type" fun x => x.metatype)) (.type "tuple") = pure false := by
  rw [show ((Manifest.find? "ValueError").elim "type" fun x => x.metatype) = "type" from by kernel_rfl, isSubtype_type]; kernel_rfl
theorem exc_self_ValueError : isSubtype (.type "ValueError") (.type "ValueError") = pure true := by rw [isSubtype_type]; kernel_rfl
theorem exc_ValueError_own (C : Addr) : isSubtype (.type "ValueError") (.ref C) = pure false := by
  rw [isSubtype_type, show fastBuiltinMro "ValueError" = some [.type "ValueError", .type "Exception", .type "BaseException", .type "object"] from by kernel_rfl]
  rfl
section
variable {M : Model} {A : Around} {E : Value → Shared → Prop}
variable {nm q : Str} {C N : Addr} {bs bm : List Value} {hdct : Bool} {sn : List Str} {sub : List Value} {ab : Bool} {col : Option Bool} {dd : Option Addr} {k0 k1 k2 k3 k5 : Option Value} {newId : String}
theorem excMatches_ValueError_own {h : Heap} {g : Array GenState} {d : Drawn} {t : Nat} {os : OsState} {e : Addr} {oe : Obj} {Q : Bool → Shared → Prop}
    (hC : h.get? C = some (excClassObj nm q C N bs bm hdct sn sub ab col dd k0 k1 k2 k3 k5 newId)) (he : h.get? e = some oe) (hcls : oe.cls = .type "ValueError") (hbase : bm.contains (.type "BaseException") = true)
    (hq : Q false ⟨h, g, d, t, os⟩) : wpAny M A (excMatches (.ref e) (.ref C)) Q E ⟨h, g, d, t, os⟩ := by
  have hcB : (Value.ref C :: bm).contains (.type "BaseException") = true := by rw [List.contains_cons, hbase, Bool.or_true]
  have f := tc_notTuple
  have f2 := exc_ValueError_own C
  unfold excMatches
  repeat (first | (with_reducible refine wpAny_loadPart_at he ?_; rw [hcls]) | with_reducible refine wpAny_loadPart_at hC ?_ | (with_reducible refine wpAny_isSubtype_exc hC ?_; rw [hcB]) | wp_step)
  exact hq
end
section
variable {prog : Program} {w : World} {m : Mod} {B0 : Heap} {n : Nat} {c : Cx} {l : List Env} {W W' : List Addr} {σ : Store} {s s' : Shared} {ck : Ck} {Φ : Nat → List PyData → Option PyData} {C : Addr}
theorem star1 {e : Expr} {env : Env} (hst : ∀ x p, e ≠ .Starred x p) : starEach [e] env = [(false, eval e env)] := by
  cases e <;> first | rfl | exact absurd rfl (hst _ _)
theorem glob_name (k : CkxOk m n ck c) {h : Heap} (hi : m.In h) {x : Str} {v : Value} (hx : ck.glob x = true) (hv : m.mg x = some v) (hd : (x == ("__debug__" : Str)) = false) {A : Around} {np : Pos} {s : Shared} (hs : s.heap = h) {Q : Value → Shared → Prop} {E : Value → Shared → Prop} (hQ : Q v s) :
    wpAny (model prog w) A (eval (.Name x np) c.env) Q E s :=
  Calls.Name_function_global k.cx.hk (glob_of (k.ce []) hx) (Calls.loadGlobal_global (by rw [show c.env.globals = mainGlobals from k.cx.hg, hs]; exact hi.g) hv hQ) hd
theorem builtin_name (hm : m.Ok) (k : CkxOk m n ck c) {h : Heap} (hi : m.In h) {x : String} (hmem : x ∈ (["list", "range", "dict", "type", "str", "int", "tuple", "ValueError"] : List String)) (hx : ck.glob (Str.ofString x) = true) (hd : ((Str.ofString x) == ("__debug__" : Str)) = false) {A : Around} {np : Pos} {s : Shared} (hs : s.heap = h) {Q : Value → Shared → Prop} {E : Value → Shared → Prop} (hQ : Q (.type x) s) :
    wpAny (model prog w) A (eval (.Name (Str.ofString x) np) c.env) Q E s := by
  obtain ⟨h1, h2⟩ := hm.ty x hmem
  exact Calls.Name_function_global k.cx.hk (glob_of (k.ce []) hx) (Calls.loadGlobal_builtin (by rw [show c.env.globals = mainGlobals from k.cx.hg, hs]; exact hi.g) h1 (by rw [show c.env.builtins = builtinsNs from k.cx.hb, hs]; exact hi.b) h2 hQ) hd
theorem l_raise_own (hm : m.Ok) (hΦ : CallOk prog w m Φ n) (X : Own m B0 C) (k : CkxOk m n ck c) (o : LOk m B0 c l) (S : Sat m c σ W s) {np cpos pos : Pos} {msg : Expr} {pm : PE} {d : PyData} (hg : ck.glob oomX = true) (hst : notStar msg = true) (hck : chkE ck pm msg = true) (hd : denE Φ pm σ = some d)
    {Q : Flow → Shared → Prop} {E : Value → Shared → Prop} (h : ∀ s' h' e args, Keeps s s' → Heap.MadeExcOf s'.heap h' e (.ref C) args → E (.ref e) { s' with heap := h' }) :
    wpAny (model prog w) c.A (exec (.Raise (some (.Call (.Name oomX np) [msg] [] cpos)) none pos) c.env) Q E s := by
  have K := S.stk k.cx o
  obtain ⟨tl, N, nm, q, bs, hdct, sn, sub, ab, col, dd, k0, k1, k2, k3, k5, mN, hC, hN, hq, T⟩ := (X.keeps K.stays).obj
  have he := star1 (env := c.env) (star_of hst)
  refine wpAny_Raise_call_subT (C := C) (nm := nm) (q := q) (N := N) (bs := bs) (bm := tl) (hdct := hdct) (sn := sn) (sub := sub) (ab := ab) (col := col) (dd := dd) (k0 := k0) (k1 := k1) (k2 := k2) (k3 := k3) (k5 := k5)
    PySem.F.excBase_Exception (mN := mN) (T.tail.hasType (by decide +kernel)) k.cx.A.handled (by rw [he]; rfl) (hq _ (.head _)) (glob_name k K.md' hg X.bound (by decide) rfl ⟨rfl, ?_⟩)
  have h0 : wpAny (model prog w) c.A (spliced (backTo cpos (starEach [msg] c.env))) (fun vs s₂ => vs.length ≤ sizeLine ∧ Keeps s s₂) E s :=
    spliced_one (star_of hst) (ev1 (c := c.ce W) (soundE hm hΦ pm msg ck (c.ce W) (k.ce W) hck) hd S.e fun v s₁ fp oo S₁ => ⟨by show 1 ≤ sizeLine; unfold sizeLine; decide, oo.kp⟩)
  rw [he] at h0 ⊢
  exact Calls.evalArgs_plain (wpAny_mono h0 (fun vs s₂ h₂ => ⟨rfl, h₂.1, Keeps.keep h₂.2 _ _ hC, hN.keeps (Keeps.keep h₂.2), T.tail.keeps (Keeps.keep h₂.2), fun h' e x => h s₂ h' e _ h₂.2 x⟩) fun _ _ y => y)
theorem l_raise_V (hm : m.Ok) (hΦ : CallOk prog w m Φ n) (k : CkxOk m n ck c) (o : LOk m B0 c l) (S : Sat m c σ W s) {np cpos pos : Pos} {msg : Expr} {pm : PE} {d : PyData} (hg : ck.glob (Str.ofString "ValueError") = true) (hst : notStar msg = true) (hck : chkE ck pm msg = true) (hd : denE Φ pm σ = some d)
    {Q : Flow → Shared → Prop} {E : Value → Shared → Prop} (h : ∀ s' h' e args, Keeps s s' → Heap.MadeExcOf s'.heap h' e (.type "ValueError") args → E (.ref e) { s' with heap := h' }) :
    wpAny (model prog w) c.A (exec (.Raise (some (.Call (.Name (Str.ofString "ValueError") np) [msg] [] cpos)) none pos) c.env) Q E s := by
  have K := S.stk k.cx o
  have he := star1 (env := c.env) (star_of hst)
  refine wpAny_Raise_call PySem.F.excCall_ValueError PySem.F.excRaise_ValueError k.cx.A.handled (by rw [he]; rfl) (builtin_name hm k K.md' (by decide) hg (by decide) rfl ⟨rfl, ?_⟩)
  have h0 : wpAny (model prog w) c.A (spliced (backTo cpos (starEach [msg] c.env))) (fun vs s₂ => vs.length ≤ sizeLine ∧ Keeps s s₂) E s :=
    spliced_one (star_of hst) (ev1 (c := c.ce W) (soundE hm hΦ pm msg ck (c.ce W) (k.ce W) hck) hd S.e fun v s₁ fp oo S₁ => ⟨by show 1 ≤ sizeLine; unfold sizeLine; decide, oo.kp⟩)
  rw [he] at h0 ⊢
  exact Calls.evalArgs_plain (wpAny_mono h0 (fun vs s₂ h₂ => ⟨rfl, h₂.1, fun h' e x => h s₂ h' e _ h₂.2 ⟨x.keeps, x.new, x.there⟩⟩) fun _ _ y => y)
theorem Thrown.landed {e : Addr} {cls : Value} {l : List Env} (T : Thrown m l e cls s s') {h' : Heap} {B : Heap} {a0 : Value} (k1 : ∀ b o, b ∉ frs l → b ≠ m.tp → s.heap.get? b = some o → B.get? b = some o) (kt : m.Tbl s.heap → m.Tbl B) (f : Heap.FlyingW B l e cls a0 h') (us : s'.heap.UpToSlots h') :
    LStep m l s { s' with heap := h' } := by
  obtain ⟨h, tk, g, rfl⟩ := T.same
  exact ⟨⟨h', tk, g, rfl⟩, T.bare, fun b ob hb hp e => f.1 b ob (k1 b ob hb hp e), T.slots.trans us, fun x => (kt x).keeps f.1⟩
theorem l_catch_own (X : Own m B0 C) (k : CkxOk m n ck c) (o : LOk m B0 c l) (S : Sat m c σ W s) {e : Addr} (T : Thrown m (c.env :: l) e (.ref C) s s') (hg : ck.glob oomX = true) {b₀ : Stmt} {suite : List Stmt} {np pos : Pos} {rest : List ExceptHandler} {Q : Flow → Shared → Prop} {E : Value → Shared → Prop}
    (h : ∀ s'' (E' : Value → Shared → Prop), LStep m (c.env :: l) s s'' → wpAny (model prog w) (c.A.mark (some (.ref e))) (execs (b₀ :: suite) c.env) Q E' s'') :
    wpAny (model prog w) c.A (noteFrame (.ref e) c.env) (fun _ s₂ => wpAny (model prog w) c.A (setFlight (.ref e) none) (fun _ s₃ =>
        wpAny (model prog w) c.A (handleBy (.ref e) c.env (.ExceptHandler (some (.Name oomX np)) none (b₀ :: suite) pos :: rest)) Q E s₃) E s₂) E s' := by
  obtain ⟨B, a0, k1, kt, fl⟩ := T.fly
  refine wpAny_looks_onW o.stack o.frame fl fun h₄ held us₄ => ?_
  refine wpAny_landsW held fun h₅ fl₅ us₅ => ?_
  have t₅ := T.landed k1 kt fl₅ (us₄.trans us₅)
  have K₅ := (S.stk k.cx o).step t₅
  refine handleBy_own (C := C) (x := oomX) (bmB := oomBm) (newId := "Exception.__new__") (mg := m.mg) (by decide +kernel) (glob_name k K₅.md' hg X.bound (by decide) rfl ⟨rfl, X.keeps K₅.stays, fl₅.there, ?_⟩)
  refine lands_againW fl₅ fun h₆ fl₆ us₆ => ?_
  exact h _ _ (T.landed k1 kt fl₆ ((us₄.trans us₅).trans us₆))
theorem l_catch_V (hm : m.Ok) (X : Own m B0 C) (k : CkxOk m n ck c) (o : LOk m B0 c l) (S : Sat m c σ W s) {e : Addr} (T : Thrown m (c.env :: l) e (.type "ValueError") s s') (hg : ck.glob oomX = true) (hg2 : ck.glob (Str.ofString "ValueError") = true) {b₀ b₁ : Stmt} {suite suite₁ : List Stmt} {np pos np₁ pos₁ : Pos} {rest : List ExceptHandler} {Q : Flow → Shared → Prop} {E : Value → Shared → Prop}
    (h : ∀ s'' (E' : Value → Shared → Prop), LStep m (c.env :: l) s s'' → wpAny (model prog w) (c.A.mark (some (.ref e))) (execs (b₁ :: suite₁) c.env) Q E' s'') :
    wpAny (model prog w) c.A (noteFrame (.ref e) c.env) (fun _ s₂ => wpAny (model prog w) c.A (setFlight (.ref e) none) (fun _ s₃ =>
        wpAny (model prog w) c.A (handleBy (.ref e) c.env (.ExceptHandler (some (.Name oomX np)) none (b₀ :: suite) pos :: .ExceptHandler (some (.Name (Str.ofString "ValueError") np₁)) none (b₁ :: suite₁) pos₁ :: rest)) Q E s₃) E s₂) E s' := by
  obtain ⟨B, a0, k1, kt, fl⟩ := T.fly
  refine wpAny_looks_onW o.stack o.frame fl fun h₄ held us₄ => ?_
  refine wpAny_landsW held fun h₅ fl₅ us₅ => ?_
  have t₅ := T.landed k1 kt fl₅ (us₄.trans us₅)
  have K₅ := (S.stk k.cx o).step t₅
  obtain ⟨oe, hoe, hoec⟩ := fl₅.there
  refine wpAny_handleBy_cons (codeAny_handlers_test (glob_name k K₅.md' hg X.bound (by decide) rfl ?_)) (by intro q; cases q)
  obtain ⟨tl, N, nm, q, bs, hdct, sn, sub, ab, col, dd, q0, q1, q2, q3, q5, mN, hC, hN, hq, TT⟩ := (X.keeps K₅.stays).obj
  refine excMatches_ValueError_own hC hoe hoec (TT.tail.hasType (by decide +kernel)) ?_
  show wpAny _ _ (handleBy _ _ _) _ _ _
  refine wpAny_handleBy_builtin (X := "ValueError") (T := "ValueError") (b := true) exc_isExc_ValueError exc_notTuple_ValueError exc_self_ValueError (builtin_name hm k K₅.md' (by decide) hg2 (by decide) rfl ⟨rfl, ⟨oe, hoe, hoec⟩, ?_⟩)
  refine lands_againW fl₅ fun h₆ fl₆ us₆ => ?_
  exact h _ _ (T.landed k1 kt fl₆ ((us₄.trans us₅).trans us₆))
end
end Mine

namespace Mine
open PySem PyProof.Rows PySem.W
set_option autoImplicit false
set_option maxRecDepth 100000
noncomputable def textAt (k : Nat) : List Stmt := match PySem.Challenge.pw_sx_zcinder_5.main.body[k]? with
  | some (.FunctionDef _ _ b ..) => b
  | _ => []
noncomputable def PSs.take : Nat → PSs → PSs
  | 0, _ => .nil
  | n + 1, .cons s r => .cons s (PSs.take n r)
  | _, _ => .nil
noncomputable def PSs.drop : Nat → PSs → PSs
  | 0, p => p
  | n + 1, .cons _ r => PSs.drop n r
  | _, p => p
noncomputable def PSs.flat : PSs → Bool
  | .nil => true
  | .cons _ r => PSs.flat r
  | _ => false
section
variable {prog : Program} {w : World} {m : Mod} {B0 : Heap} {n fuel : Nat} {c : Cx} {l : List Env} {W W' : List Addr} {σ : Store} {s s' : Shared} {ck : Ck} {Φ : Nat → List PyData → Option PyData} {C : Addr}
theorem same_gens {c : Cx} (t : Step c W s s' W') : s'.gens = s.gens := by obtain ⟨h, tk, rfl⟩ := t.same; rfl
theorem l_seg (hm : m.Ok) (hΦ : CallOk prog w m Φ n) (k : CkxOk m n ck c) (o : LOk m B0 c l) {rest : List Stmt} {Q : Flow → Shared → Prop} {E : Value → Shared → Prop} {σ' : Store} : ∀ (pre : PSs) (sts : List Stmt) (σ : Store) (W : List Addr) (s : Shared), pre.flat = true → chkSs ck pre sts = true →
    denSs Φ fuel pre σ = some (.next σ') → Sat m c σ W s → (∀ s' W', Sat m c σ' W' s' → LS m c l W s s' W' → s'.gens = s.gens → wpAny (model prog w) c.A (execs rest c.env) Q E s') → wpAny (model prog w) c.A (execs (sts ++ rest) c.env) Q E s
  | .nil, sts, σ, W, s, _, hc, hd, S, h => by
    cases sts with
    | cons _ _ => exact (Bool.false_ne_true hc).elim
    | nil => ?_
    simp only [dSs_nil, Option.some.injEq, Res.next.injEq] at hd
    subst hd
    exact h s W S (LS.of_step k.cx o S (Step.rfl' S)) rfl
  | .cons ps r, sts, σ, W, s, hf, hc, hd, S, h => by
    cases sts with
    | nil => exact (Bool.false_ne_true hc).elim
    | cons st sts =>
      replace hc := two hc
      simp only [dSs_cons] at hd
      split at hd
      · rename_i σ₁ e1
        refine wpAny_execs_cons (soundS hm hΦ ps st ck c k hc.1 σ _ s W e1 S _ E ?_)
        intro s₁ W₁ S₁ t₁
        refine l_seg hm hΦ k o r sts σ₁ W₁ s₁ hf hc.2 hd S₁ fun s₂ W₂ S₂ t₂ g₂ => h s₂ W₂ S₂ ((LS.of_step k.cx o S t₁).trans t₂ (S.outerAt o)) (g₂.trans (same_gens t₁))
      · cases hd
      · cases hd
  | .unpA .., sts, σ, W, s, hf, hc, hd, S, h => by cases hf
  | .unpS .., sts, σ, W, s, hf, hc, hd, S, h => by cases hf
theorem l_end (hm : m.Ok) (hΦ : CallOk prog w m Φ n) (k : CkxOk m n ck c) (o : LOk m B0 c l) {ps : PSs} {sts : List Stmt} (hc : chkSs ck ps sts = true) {d : PyData} (hd : denSs Φ fuel ps σ = some (.ret d)) (S : Sat m c σ W s) {Q : Flow → Shared → Prop} {E : Value → Shared → Prop}
    (h : ∀ v s' W' fp, Rd s'.heap v d fp → (∀ a ∈ fp, c.U a) → LS m c l W s s' W' → s'.gens = s.gens → Q (.ret v) s') : wpAny (model prog w) c.A (execs sts c.env) Q E s := by
  refine soundSs hm hΦ ps sts ck c k hc σ _ s W hd S Q E ?_
  exact fun v s' W' fp r u t _ => h v s' W' fp r u (LS.of_step k.cx o S t) (same_gens t)
theorem ev_none {M : Model} {A : Around} {env : Env} {s : Shared} {kk : Nat} {p : Pos} {Q : Value → Shared → Prop} {E : Value → Shared → Prop} (h : Q .none s) : wpAny M A (eval (.Constant .none kk p) env) Q E s := fun _ _ _ => h
noncomputable def Outc.val (got : Outc) : PyData := match got with | .ret d => d | .exc _ => .none
theorem l_try (hm : m.Ok) (hΦ : CallOk prog w m Φ n) (X : Own m B0 C) (k : CkxOk m n ck c) (o : LOk m B0 c l) (S : Sat m c σ W s) (hb : AllBare s.gens) {i f : Nat} {g : Str} {es : PEs} {call : Expr} {p1 p2 p3 p4 p5 p6 p7 np : Pos} {kk : Nat} (hi : c.names[i]? = some g) (hno : i ∉ c.own) (hcl : es.clean c.own = true)
    (hck : chkE ck (.call f es) call = true) (hnc : notComp call = true) (hg : ck.glob oomX = true) {xs : List PyData} (hxs : denEs Φ es σ = some xs) {out : Outc} (L : LSpec prog w m B0 n f xs out) (hout : ∀ cls, out = .exc cls → cls = .ref C)
    {Q : Flow → Shared → Prop} {E : Value → Shared → Prop}
    (h : ∀ s' h0, CkxOk m n ck { c with h0 := h0 } → LOk m B0 { c with h0 := h0 } l → Sat m { c with h0 := h0 } (σ.set i (some out.val)) W s' → SameDom c h0 → LS m c l W s s' W → Q .next s') :
    wpAny (model prog w) c.A (exec (.Try [.Assign [.Name g p1] call p2] [.ExceptHandler (some (.Name oomX np)) none [.Assign [.Name g p3] (.Constant .none kk p4) p5] p6] [] [] p7) c.env) Q E s := by
  refine wpAny_Try_except (wpAny_execs_cons (wpAny_Assign_Name (lcall hm hΦ k o S hb hck hxs L ?_) (swaps_no hnc)))
  cases out with
  | ret d =>
    intro v s' fp t r u cl
    refine lassign k o S t hi hno r u (cl hcl) fun s'' h0 k' o' S' hU t' hg' => ?_
    exact wpAny_execs_nil (wpAny_execs_nil (h s'' h0 k' o' S' hU t'))
  | exc cls =>
    obtain rfl := hout cls rfl
    intro e s' t
    refine l_catch_own X k o S t hg fun s'' E' t' => ?_
    refine wpAny_execs_cons (wpAny_Assign_Name (ev_none ?_) rfl)
    refine lassign k o S t' hi hno (.none : Rd s''.heap .none .none []) (fun z hz => (nomatch hz)) (fun z hz => (nomatch hz)) fun s3 h0 k' o' S' hU t3 hg' => ?_
    exact wpAny_execs_nil (h s3 h0 k' o' S' hU t3)
end
end Mine

namespace Mine
open PySem PyProof.Rows PySem.W
set_option autoImplicit false
set_option maxRecDepth 100000
noncomputable def tab : List FD := [fd_is_pointer, fd_pointer_to, fd_address_of, fd_blocks_of, fd_free_words, fd_allocate, fd_fields_of, fd_with_field, fd_reachable, fd_live_words, fd_swept, fd_collected_by_sweeping, fd_forwarded, fd_collected_by_copying, fd_shape_of, fd_allocate_or_collect, fd_law_words, fd_law_places, fd_law_heap, fd_law_live, fd_law_packed, fd_law_seen, fd_law_relaid, fd_law_ways, fd_law_lays, fd_law_told, fd_law_refusal, fd_law]
theorem specFor_fd (x : Str) (ns : List Str) (fd : FD) : (specFor x ns fd).fd = fd := by unfold specFor; split <;> rfl
theorem specFor_names (x : Str) (ns : List Str) (fd : FD) : (specFor x ns fd).names = ns := by unfold specFor; split <;> rfl
theorem specs_tab : specs.map (·.fd) = tab := by
  simp only [specs, tab, List.map_cons, List.map_nil, sp_is_pointer, sp_pointer_to, sp_address_of, sp_blocks_of, sp_free_words, sp_allocate, sp_fields_of, sp_with_field, sp_reachable, sp_live_words, sp_swept, sp_collected_by_sweeping, sp_forwarded, sp_collected_by_copying, sp_shape_of, sp_allocate_or_collect, sp_law_words, sp_law_places, sp_law_heap, sp_law_live, sp_law_packed, sp_law_seen, sp_law_relaid, sp_law_ways, sp_law_lays, sp_law_told, sp_law_refusal, sp_law, specFor_fd]
structure ModOk (m : Mod) : Prop where
  ok : m.Ok
  fn : ∀ (f : Nat) x, fnNames[f]? = some x → ∃ a, m.fns[f]? = some (x, a)
  specs : m.specs = specs
  twos : m.twos = twos
theorem specs_ok : ∀ (f : Nat) sp, specs[f]? = some sp → spOk fnNames twos f sp = true := by
  intro f sp h
  match f, h with
  | 0, h => cases h; exact ok_is_pointer
  | 1, h => cases h; exact ok_pointer_to
  | 2, h => cases h; exact ok_address_of
  | 3, h => cases h; exact ok_blocks_of
  | 4, h => cases h; exact ok_free_words
  | 5, h => cases h; exact ok_allocate
  | 6, h => cases h; exact ok_fields_of
  | 7, h => cases h; exact ok_with_field
  | 8, h => cases h; exact ok_reachable
  | 9, h => cases h; exact ok_live_words
  | 10, h => cases h; exact ok_swept
  | 11, h => cases h; exact ok_collected_by_sweeping
  | 12, h => cases h; exact ok_forwarded
  | 13, h => cases h; exact ok_collected_by_copying
  | 14, h => cases h; exact ok_shape_of
  | 15, h => cases h; exact ok_allocate_or_collect
  | 16, h => cases h; exact ok_law_words
  | 17, h => cases h; exact ok_law_places
  | 18, h => cases h; exact ok_law_heap
  | 19, h => cases h; exact ok_law_live
  | 20, h => cases h; exact ok_law_packed
  | 21, h => cases h; exact ok_law_seen
  | 22, h => cases h; exact ok_law_relaid
  | 23, h => cases h; exact ok_law_ways
  | 24, h => cases h; exact ok_law_lays
  | 25, h => cases h; exact ok_law_told
  | 26, h => cases h; exact ok_law_refusal
  | 27, h => cases h; exact ok_law
  | k + 28, h => simp [specs] at h
section
variable {prog : Program} {w : World} {m : Mod} {B0 : Heap} {n fuel : Nat} {C : Addr}
theorem ModOk.tabOk (M : ModOk m) : TabOk m fnNames := ⟨M.fn, fun f sp h => by rw [M.twos]; exact specs_ok f sp (M.specs ▸ h)⟩
theorem ModOk.call (M : ModOk m) (n : Nat) : CallOk prog w m (callD tab fuel n) n := by
  have := callOk_all (prog := prog) (w := w) M.ok M.tabOk fuel n
  rw [M.specs, specs_tab] at this
  exact this
noncomputable def ck5 : Ck := spCk fnNames twos sp_allocate
inductive Sh5 : List Stmt → Prop
  | mk (a ct x1 w1 y1 k1 q1 w2 w3 p b d x2 w4 y2 k2 q2 e2 q3 y3 k3 q4 q5 w5 w6) (h : (chkSs ck5 (fd_allocate.body.take 1) [a] && chkC ck5 (.ex (.isN (.var 2))) ct && x1 == Str.ofString "ValueError" && ck5.glob x1 && x2 == oomX && ck5.glob x2 && chkSs ck5 (fd_allocate.body.take 4) [a, .If ct [.Raise (some (.Call (.Name x1 q1) [.Constant (.str y1) k1 q1] [] q1)) none q1] [] p, b, d] && chkE ck5 (.strOf (.var 3)) e2 && decide (y2.length ≤ 1000 ∧ y3.length ≤ 1000)) = true) : Sh5 ([a, .If ct [.Raise (some (.Call (.Name x1 w1) [.Constant (.str y1) k1 q1] [] w2)) none w3] [] p, b, d, .Raise (some (.Call (.Name x2 w4) [.BinOp (.BinOp (.Constant (.str y2) k2 q2) .Add e2 q3) .Add (.Constant (.str y3) k3 q4) q5] [] w5)) none w6])
theorem shape5_ok : Sh5 sp_allocate.body := (show sp_allocate.body = textAt 7 by kernel_rfl) ▸ Sh5.mk _ _ _ _ _ _ _ _ _ _ _ _ _ _ _ _ _ _ _ _ _ _ _ _ _ (by decide +kernel)
theorem str_need {a : Int} (h1 : 1 ≤ a) (h2 : a ≤ 3) : ∃ x, dStr (.int a) = some (.str x) ∧ x.length ≤ 100 := by
  have : a = 1 ∨ a = 2 ∨ a = 3 := by lia
  rcases this with rfl | rfl | rfl <;> exact ⟨_, rfl, by decide +kernel⟩
theorem alloc_V (M : ModOk m) {mem fields : PyData} (hb3 : callD tab fuel n 3 [mem] = some .none) : LSpec prog w m B0 (n + 1) 5 [mem, fields] (.exc (.type "ValueError")) := by
  have hΦ : CallOk prog w m (callD tab fuel n) n := M.call n
  refine LSpec.of_body M.ok M.tabOk (sp := sp_allocate) (by rw [M.specs]; rfl) (by rw [sp_allocate, specFor_fd]; rfl) (by rw [sp_allocate, specFor_fd]; rfl) fun c l s Q E k o S hb _ h => ?_
  rw [M.twos] at k
  have hs := shape5_ok
  generalize sp_allocate.body = body at hs ⊢
  cases hs with
  | mk a ct x1 _ y1 k1 q1 _ _ p b d x2 _ y2 k2 q2 e2 q3 y3 k3 q4 q5 _ _ hs =>
  simp only [Bool.and_eq_true, beq_iff_eq, decide_eq_true_eq] at hs
  obtain ⟨⟨⟨⟨⟨⟨⟨⟨h1, h2⟩, rfl⟩, h4⟩, rfl⟩, h6⟩, h7⟩, h8⟩, h9⟩ := hs
  · have hst : startStore sp_allocate.fd [mem, fields] = [some mem, some fields, none, none, none, none, none, none] := by rw [sp_allocate, specFor_fd]; rfl
    rw [hst] at S
    have hd1 : denSs (callD tab fuel n) fuel (fd_allocate.body.take 1) [some mem, some fields, none, none, none, none, none, none] = some (.next [some mem, some fields, some .none, none, none, none, none, none]) := by
      have e : denS (callD tab fuel n) fuel (.assign 2 (.call 3 (.cons (.var 0) .nil))) [some mem, some fields, none, none, none, none, none, none] = some (.next [some mem, some fields, some .none, none, none, none, none, none]) := via hb3 rfl
      exact (dSs_cons _ _ _ _ _).trans (by rw [e]; rfl)
    refine l_seg M.ok hΦ k o (fd_allocate.body.take 1) [a] _ _ s rfl h1 hd1 S fun s' W' S' t' _ => ?_
    refine wpAny_execs_cons (wpAny_If (soundC M.ok hΦ (.ex (.isN (.var 2))) ct ck5 (c.ce W') (k.ce W') h2 _ true s' (by simp [dC_ex, q_var, q_isN, Store.get, o_n0]) S'.e _ E fun s₂ kk => ?_))
    have S₂ := S'.mono kk
    have t₂ := t'.trans (LS.of_step k.cx o S' (Step.of_keeps S' kk)) (S.outerAt o)
    refine wpAny_execs_cons (l_raise_V M.ok hΦ k o S₂ (pm := .str y1) (d := .str y1) h4 rfl (by exact decide_eq_true rfl) rfl fun s₃ h' e args kk₃ hx => h e _ fun QL EL hQ => ?_)
    exact leave_made k.cx o (S₂.mono kk₃) (t₂.trans (LS.of_step k.cx o S₂ (Step.of_keeps S₂ kk₃)) (S.outerAt o)) hx QL EL hQ
theorem alloc_O (M : ModOk m) (X : Own m B0 C) {mem fields : PyData} {σ' : Store} {need : Int} (hd : denSs (callD tab fuel n) fuel (fd_allocate.body.take 4) (startStore fd_allocate [mem, fields]) = some (.next σ')) (hn : σ'.get 3 = some (.int need)) (h1 : 1 ≤ need) (h2 : need ≤ 3) :
    LSpec prog w m B0 (n + 1) 5 [mem, fields] (.exc (.ref C)) := by
  have hΦ : CallOk prog w m (callD tab fuel n) n := M.call n
  refine LSpec.of_body M.ok M.tabOk (sp := sp_allocate) (by rw [M.specs]; rfl) (by rw [sp_allocate, specFor_fd]; rfl) (by rw [sp_allocate, specFor_fd]; rfl) fun c l s Q E k o S hb _ h => ?_
  rw [M.twos] at k
  have hs := shape5_ok
  generalize sp_allocate.body = body at hs ⊢
  cases hs with
  | mk a ct x1 _ y1 k1 q1 _ _ p b d x2 _ y2 k2 q2 e2 q3 y3 k3 q4 q5 _ _ hs =>
  simp only [Bool.and_eq_true, beq_iff_eq, decide_eq_true_eq] at hs
  obtain ⟨⟨⟨⟨⟨⟨⟨⟨g1, g2⟩, rfl⟩, g4⟩, rfl⟩, g6⟩, g7⟩, g8⟩, g9⟩ := hs
  · have hst : startStore sp_allocate.fd [mem, fields] = startStore fd_allocate [mem, fields] := by rw [sp_allocate, specFor_fd]
    rw [hst] at S
    refine l_seg M.ok hΦ k o (fd_allocate.body.take 4) [a, _, b, d] _ _ s rfl g7 hd S fun s' W' S' t' _ => ?_
    obtain ⟨x, hx, hxl⟩ := str_need h1 h2
    have hden : denE (callD tab fuel n) (.scat (.scat (.str y2) (.strOf (.var 3))) (.str y3)) σ' = some (.str (y2 ++ x ++ y3)) := by
      simp only [q_str, q_var, q_scat, q_strOf, hn, Option.bind_some, hx, o_sc]
      rw [if_pos (by unfold lim; lia)]
      simp only [Option.bind_some, o_sc]
      rw [if_pos (by rw [Str.length_append]; unfold lim; lia)]
    refine wpAny_execs_cons (l_raise_own M.ok hΦ X k o S' (pm := .scat (.scat (.str y2) (.strOf (.var 3))) (.str y3)) (d := .str (y2 ++ x ++ y3)) g6 rfl (by exact andT (andT (decide_eq_true rfl) (andT (andT (decide_eq_true rfl) (decide_eq_true rfl)) g8)) (decide_eq_true rfl)) hden fun s₃ h' e args kk₃ hx => h e _ fun QL EL hQ => ?_)
    exact leave_made k.cx o (S'.mono kk₃) (t'.trans (LS.of_step k.cx o S' (Step.of_keeps S' kk₃)) (S.outerAt o)) hx QL EL hQ
end
end Mine

namespace Mine
open PySem PyProof.Rows PySem.W
set_option autoImplicit false
set_option maxRecDepth 100000
section
variable {prog : Program} {w : World} {m : Mod} {B0 : Heap} {n fuel : Nat} {C : Addr}
noncomputable def ck26 : Ck := spCk fnNames twos sp_law_refusal
inductive Sh26 : List Stmt → Prop
  | mk (a call w1 x1 w2 g1 w3 y1 w4 w5 w6 w7 x2 w8 g2 w9 y2 w10 w11 w12 w13 w14 ret) (h : (chkSs ck26 (fd_law_refusal.body.take 1) [a] && chkE ck26 (.call 5 (.cons (.var 0) (.cons (.var 1) .nil))) call && notComp call && x1 == oomX && ck26.glob x1 && x2 == Str.ofString "ValueError" && ck26.glob x2 && ck26.names[2]? == some g1 && ck26.names[2]? == some g2 && y1 == Str.ofString "no room" && y2 == Str.ofString "untiled" && chkSs ck26 (fd_law_refusal.body.drop 2) [ret]) = true) : Sh26 ([a, .Try [.Expr call w1] [.ExceptHandler (some (.Name x1 w2)) none [.Assign [.Name g1 w3] (.Constant (.str y1) w4 w5) w6] w7, .ExceptHandler (some (.Name x2 w8)) none [.Assign [.Name g2 w9] (.Constant (.str y2) w10 w11) w12] w13] [] [] w14, ret])
theorem shape26_ok : Sh26 sp_law_refusal.body := (show sp_law_refusal.body = textAt 29 by kernel_rfl) ▸ Sh26.mk _ _ _ _ _ _ _ _ _ _ _ _ _ _ _ _ _ _ _ _ _ _ _ (by decide +kernel)
theorem swaps_noE {e : Expr} {l : Nat} {env : Env} (h : notComp e = true) : swapsWith e none l env = pure false := swaps_no h
theorem refusal (M : ModOk m) (X : Own m B0 C) {mem fields : PyData} {cls : Value} (L : LSpec prog w m B0 n 5 [mem, fields] (.exc cls)) {ans : Str} (ha : (cls = .ref C ∧ ans = Str.ofString "no room") ∨ (cls = .type "ValueError" ∧ ans = Str.ofString "untiled")) :
    LSpec prog w m B0 (n + 1) 26 [mem, fields] (.ret (.str ans)) := by
  have hΦ : CallOk prog w m (callD tab 0 n) n := M.call n
  refine LSpec.of_body M.ok M.tabOk (sp := sp_law_refusal) (by rw [M.specs]; rfl) (by rw [sp_law_refusal, specFor_fd]; rfl) (by rw [sp_law_refusal, specFor_fd]; rfl) fun c l s Q E k o S hb _ h => ?_
  rw [M.twos] at k
  have hs := shape26_ok
  generalize sp_law_refusal.body = body at hs ⊢
  cases hs with
  | mk a call pe x1 np1 g1 p1 y1 k1 p2 p3 p4 x2 np2 g2 p5 y2 k2 p6 p7 p8 p9 ret hs =>
  simp only [Bool.and_eq_true, beq_iff_eq] at hs
  obtain ⟨⟨⟨⟨⟨⟨⟨⟨⟨⟨⟨h1, h2⟩, h3⟩, rfl⟩, h5⟩, rfl⟩, h7⟩, h8⟩, h9⟩, rfl⟩, rfl⟩, h12⟩ := hs
  · have hst : startStore sp_law_refusal.fd [mem, fields] = [some mem, some fields, none] := by rw [sp_law_refusal, specFor_fd]; rfl
    rw [hst] at S
    have hd1 : denSs (callD tab 0 n) 0 (fd_law_refusal.body.take 1) [some mem, some fields, none] = some (.next [some mem, some fields, some (.str (Str.ofString "none"))]) := by
      rfl
    refine l_seg M.ok hΦ k o (fd_law_refusal.body.take 1) [a] _ _ s rfl h1 hd1 S fun s' W' S' t' hg' => ?_
    have hb' : AllBare s'.gens := hg' ▸ hb
    have hno : 2 ∉ c.own := by rw [k.own]; show 2 ∉ sp_law_refusal.fd.own; rw [sp_law_refusal, specFor_fd]; decide
    have hi1 : c.names[2]? = some g1 := by rw [k.names]; exact h8
    have hi2 : c.names[2]? = some g2 := by rw [k.names]; exact h9
    have fin : ∀ s3 h0, CkxOk m n (spCk fnNames twos sp_law_refusal) { c with h0 := h0 } → LOk m B0 { c with h0 := h0 } l → Sat m { c with h0 := h0 } [some mem, some fields, some (.str ans)] W' s3 → SameDom c h0 → LS m c l W' s' s3 W' → wpAny (model prog w) c.A (execs [ret] c.env) Q E s3 := by
      intro s3 h0 k3 o3 S3 hU t3
      refine l_end (c := { c with h0 := h0 }) M.ok hΦ k3 o3 (fuel := 0) h12 (d := .str ans) rfl S3 fun v s4 W4 fp r u t4 _ => ?_
      exact h v s4 W4 fp r (fun a ha => (hU.u a).mp (u a ha)) ((t'.trans t3 (S.outerAt o)).trans (LS.re (c' := { c with h0 := h0 }) rfl t4) (S.outerAt o))
    refine wpAny_execs_cons (wpAny_Try_except (wpAny_execs_cons (wpAny_Expr (lcall M.ok hΦ k o S' hb' h2 (xs := [mem, fields]) (by simp [dEs_nil, dEs_cons, q_var, Store.get]) L ?_) (by unfold interactive; rw [k.cx.hk]; rfl) (swaps_noE h3))))
    intro e s2 T
    rcases ha with ⟨rfl, rfl⟩ | ⟨rfl, rfl⟩
    · refine l_catch_own X k o S' T h5 fun s'' E' t'' => ?_
      refine wpAny_execs_cons (wpAny_Assign_Name (Calls.Constant_str ?_) rfl)
      refine lassign k o S' (t''.trans (LStep.of_keeps (Keeps.tok s'' _))) hi1 hno (.str _ _) (fun z hz => (nomatch hz)) (fun z hz => (nomatch hz)) fun s3 h0 k3 o3 S3 hU t3 hg3 => ?_
      exact wpAny_execs_nil (fin s3 h0 k3 o3 S3 hU t3)
    · refine l_catch_V M.ok X k o S' T h5 h7 fun s'' E' t'' => ?_
      refine wpAny_execs_cons (wpAny_Assign_Name (Calls.Constant_str ?_) rfl)
      refine lassign k o S' (t''.trans (LStep.of_keeps (Keeps.tok s'' _))) hi2 hno (.str _ _) (fun z hz => (nomatch hz)) (fun z hz => (nomatch hz)) fun s3 h0 k3 o3 S3 hU t3 hg3 => ?_
      exact wpAny_execs_nil (fin s3 h0 k3 o3 S3 hU t3)
noncomputable def ck15 : Ck := spCk fnNames twos sp_allocate_or_collect
noncomputable def es15 : PEs := .cons (.var 0) (.cons (.var 2) .nil)
inductive Sh15 : List Stmt → Prop
  | mk (a g1 w1 call w2 x1 w3 g2 w4 w5 w6 w7 w8 w9 i1 i2 g3 p3 call2 p4 ret) (h : (chkSs ck15 (fd_allocate_or_collect.body.take 1) [a] && ck15.names[4]? == some g1 && g1 == g2 && g1 == g3 && chkE ck15 (.call 5 es15) call && notComp call && x1 == oomX && ck15.glob x1 && chkSs ck15 (fd_allocate_or_collect.body.drop 2) [i1, i2, .Assign [.Name g3 p3] call2 p4, ret] && chkSs ck15 ((fd_allocate_or_collect.body.drop 2).take 2) [i1, i2] && chkE ck15 (.call 5 es15) call2 && notComp call2) = true) : Sh15 ([a, .Try [.Assign [.Name g1 w1] call w2] [.ExceptHandler (some (.Name x1 w3)) none [.Assign [.Name g2 w4] (.Constant .none w5 w6) w7] w8] [] [] w9, i1, i2, .Assign [.Name g3 p3] call2 p4, ret])
theorem shape15_ok : Sh15 sp_allocate_or_collect.body := (show sp_allocate_or_collect.body = textAt 17 by kernel_rfl) ▸ Sh15.mk _ _ _ _ _ _ _ _ _ _ _ _ _ _ _ _ _ _ _ _ _ (by decide +kernel)
noncomputable def st15 (mem roots fields how got : PyData) : Store := [some mem, some roots, some fields, some how, some got, none]
theorem collect_ret (M : ModOk m) (X : Own m B0 C) {mem roots fields how d : PyData} {out : Outc} (L : LSpec prog w m B0 n 5 [mem, fields] out) (hout : ∀ cls, out = .exc cls → cls = .ref C)
    (hd : denSs (callD tab fuel n) fuel (fd_allocate_or_collect.body.drop 2) (st15 mem roots fields how out.val) = some (.ret d)) : LSpec prog w m B0 (n + 1) 15 [mem, roots, fields, how] (.ret d) := by
  have hΦ : CallOk prog w m (callD tab fuel n) n := M.call n
  refine LSpec.of_body M.ok M.tabOk (sp := sp_allocate_or_collect) (by rw [M.specs]; rfl) (by rw [sp_allocate_or_collect, specFor_fd]; rfl) (by rw [sp_allocate_or_collect, specFor_fd]; rfl) fun c l s Q E k o S hb _ h => ?_
  rw [M.twos] at k
  have hs := shape15_ok
  generalize sp_allocate_or_collect.body = body at hs ⊢
  cases hs with
  | mk a g1 p1 call p2 x1 np g2 q1 kk q2 q3 q4 q5 i1 i2 g3 p3 call2 p4 ret hs =>
  simp only [Bool.and_eq_true, beq_iff_eq] at hs
  obtain ⟨⟨⟨⟨⟨⟨⟨⟨⟨⟨⟨h1, h2⟩, rfl⟩, rfl⟩, h5⟩, h6⟩, rfl⟩, h8⟩, h9⟩, h10⟩, h11⟩, h12⟩ := hs
  · have hst : startStore sp_allocate_or_collect.fd [mem, roots, fields, how] = [some mem, some roots, some fields, some how, none, none] := by rw [sp_allocate_or_collect, specFor_fd]; rfl
    rw [hst] at S
    have hd1 : denSs (callD tab fuel n) fuel (fd_allocate_or_collect.body.take 1) [some mem, some roots, some fields, some how, none, none] = some (.next (st15 mem roots fields how .none)) := by
      rfl
    refine l_seg M.ok hΦ k o (fd_allocate_or_collect.body.take 1) [a] _ _ s rfl h1 hd1 S fun s' W' S' t' hg' => ?_
    have hb' : AllBare s'.gens := hg' ▸ hb
    have hno : 4 ∉ c.own := by rw [k.own]; show 4 ∉ sp_allocate_or_collect.fd.own; rw [sp_allocate_or_collect, specFor_fd]; decide
    have hi1 : c.names[4]? = some g1 := by rw [k.names]; exact h2
    have hcl : es15.clean c.own = true := by rw [k.own]; show es15.clean sp_allocate_or_collect.fd.own = true; rw [sp_allocate_or_collect, specFor_fd]; decide
    refine wpAny_execs_cons (l_try M.ok hΦ X k o S' hb' hi1 hno hcl h5 h6 h8 (xs := [mem, fields]) (by simp [es15, dEs_nil, dEs_cons, q_var, Store.get, st15]) L hout fun s3 h0 k3 o3 S3 hU t3 => ?_)
    have e3 : List.set (st15 mem roots fields how .none) 4 (some out.val) = st15 mem roots fields how out.val := rfl
    rw [e3] at S3
    refine l_end (c := { c with h0 := h0 }) M.ok hΦ k3 o3 h9 hd S3 fun v s4 W4 fp r u t4 _ => ?_
    exact h v s4 W4 fp r (fun a ha => (hU.u a).mp (u a ha)) ((t'.trans t3 (S.outerAt o)).trans (LS.re (c' := { c with h0 := h0 }) rfl t4) (S.outerAt o))
theorem collect_exc (M : ModOk m) (X : Own m B0 C) {mem roots fields how mem2 fields2 : PyData} {σ₂ : Store} (L : LSpec prog w m B0 n 5 [mem, fields] (.exc (.ref C)))
    (hd : denSs (callD tab fuel n) fuel ((fd_allocate_or_collect.body.drop 2).take 2) (st15 mem roots fields how .none) = some (.next σ₂)) (hxs : denEs (callD tab fuel n) es15 σ₂ = some [mem2, fields2]) (L2 : LSpec prog w m B0 n 5 [mem2, fields2] (.exc (.ref C))) :
    LSpec prog w m B0 (n + 1) 15 [mem, roots, fields, how] (.exc (.ref C)) := by
  have hΦ : CallOk prog w m (callD tab fuel n) n := M.call n
  refine LSpec.of_body M.ok M.tabOk (sp := sp_allocate_or_collect) (by rw [M.specs]; rfl) (by rw [sp_allocate_or_collect, specFor_fd]; rfl) (by rw [sp_allocate_or_collect, specFor_fd]; rfl) fun c l s Q E k o S hb _ h => ?_
  rw [M.twos] at k
  have hs := shape15_ok
  generalize sp_allocate_or_collect.body = body at hs ⊢
  cases hs with
  | mk a g1 p1 call p2 x1 np g2 q1 kk q2 q3 q4 q5 i1 i2 g3 p3 call2 p4 ret hs =>
  simp only [Bool.and_eq_true, beq_iff_eq] at hs
  obtain ⟨⟨⟨⟨⟨⟨⟨⟨⟨⟨⟨h1, h2⟩, rfl⟩, rfl⟩, h5⟩, h6⟩, rfl⟩, h8⟩, h9⟩, h10⟩, h11⟩, h12⟩ := hs
  · have hst : startStore sp_allocate_or_collect.fd [mem, roots, fields, how] = [some mem, some roots, some fields, some how, none, none] := by rw [sp_allocate_or_collect, specFor_fd]; rfl
    rw [hst] at S
    have hd1 : denSs (callD tab fuel n) fuel (fd_allocate_or_collect.body.take 1) [some mem, some roots, some fields, some how, none, none] = some (.next (st15 mem roots fields how .none)) := by
      rfl
    refine l_seg M.ok hΦ k o (fd_allocate_or_collect.body.take 1) [a] _ _ s rfl h1 hd1 S fun s' W' S' t' hg' => ?_
    have hb' : AllBare s'.gens := hg' ▸ hb
    have hno : 4 ∉ c.own := by rw [k.own]; show 4 ∉ sp_allocate_or_collect.fd.own; rw [sp_allocate_or_collect, specFor_fd]; decide
    have hi1 : c.names[4]? = some g1 := by rw [k.names]; exact h2
    have hcl : es15.clean c.own = true := by rw [k.own]; show es15.clean sp_allocate_or_collect.fd.own = true; rw [sp_allocate_or_collect, specFor_fd]; decide
    refine wpAny_execs_cons (l_try M.ok hΦ X k o S' hb' hi1 hno hcl h5 h6 h8 (xs := [mem, fields]) (by simp [es15, dEs_nil, dEs_cons, q_var, Store.get, st15]) L (fun cls e => by cases e; rfl) fun s3 h0 k3 o3 S3 hU t3 => ?_)
    have e3 : List.set (st15 mem roots fields how .none) 4 (some (Outc.val (.exc (.ref C)))) = st15 mem roots fields how .none := rfl
    rw [e3] at S3
    have hb3 : AllBare s3.gens := t3.bare hb'
    refine l_seg (c := { c with h0 := h0 }) M.ok hΦ k3 o3 ((fd_allocate_or_collect.body.drop 2).take 2) [i1, i2] _ _ s3 rfl h10 hd S3 fun s4 W4 S4 t4 hg4 => ?_
    have hb4 : AllBare s4.gens := hg4 ▸ hb3
    refine wpAny_execs_cons (wpAny_Assign_Name (lcall (c := { c with h0 := h0 }) M.ok hΦ k3 o3 S4 hb4 h11 hxs L2 ?_) (swaps_no h12))
    intro e s5 T
    refine h e s5 fun QL EL hQ => ?_
    exact leave_on k.cx o ((t'.trans t3 (S.outerAt o)).trans (LS.re (c' := { c with h0 := h0 }) rfl t4) (S.outerAt o)) T QL EL hQ
noncomputable def ck24 : Ck := spCk fnNames twos sp_law_lays
noncomputable def es24 : PEs := .cons (.var 9) (.cons (.var 10) (.cons (.var 11) (.cons (.var 6) .nil)))
inductive Sh24 : List Stmt → Prop
  | mk (s0 s1 s2 s3 s4 s5 s6 s7 s8 s9 s10 s11 g1 w1 call w2 x1 w3 g2 w4 w5 w6 w7 w8 w9 post) (h : (chkSs ck24 (fd_law_lays.body.take 12) [s0, s1, s2, s3, s4, s5, s6, s7, s8, s9, s10, s11] && ck24.names[17]? == some g1 && g1 == g2 && chkE ck24 (.call 15 es24) call && notComp call && x1 == oomX && ck24.glob x1 && chkSs ck24 (fd_law_lays.body.drop 13) post) = true) : Sh24 (s0 :: s1 :: s2 :: s3 :: s4 :: s5 :: s6 :: s7 :: s8 :: s9 :: s10 :: s11 :: .Try [.Assign [.Name g1 w1] call w2] [.ExceptHandler (some (.Name x1 w3)) none [.Assign [.Name g2 w4] (.Constant .none w5 w6) w7] w8] [] [] w9 :: post)
theorem shape24_ok : Sh24 sp_law_lays.body := (show sp_law_lays.body = textAt 27 by kernel_rfl) ▸ Sh24.mk _ _ _ _ _ _ _ _ _ _ _ _ _ _ _ _ _ _ _ _ _ _ _ _ _ _ (by decide +kernel)
theorem lays_ret (M : ModOk m) (X : Own m B0 C) {args xs : List PyData} {d : PyData} {σ₁ : Store} {out : Outc} (hlen : args.length = 7) (hd1 : denSs (callD tab fuel n) fuel (fd_law_lays.body.take 12) (startStore fd_law_lays args) = some (.next σ₁)) (hxs : denEs (callD tab fuel n) es24 σ₁ = some xs)
    (L : LSpec prog w m B0 n 15 xs out) (hout : ∀ cls, out = .exc cls → cls = .ref C)
    (hd : denSs (callD tab fuel n) fuel (fd_law_lays.body.drop 13) (σ₁.set 17 (some out.val)) = some (.ret d)) : LSpec prog w m B0 (n + 1) 24 args (.ret d) := by
  have hΦ : CallOk prog w m (callD tab fuel n) n := M.call n
  refine LSpec.of_body M.ok M.tabOk (sp := sp_law_lays) (by rw [M.specs]; rfl) (by rw [sp_law_lays, specFor_fd]; exact hlen) (by rw [sp_law_lays, specFor_fd]; rfl) fun c l s Q E k o S hb _ h => ?_
  rw [M.twos] at k
  have hs := shape24_ok
  generalize sp_law_lays.body = body at hs ⊢
  cases hs with
  | mk s0 s1 s2 s3 s4 s5 s6 s7 s8 s9 s10 s11 g1 p1 call p2 x1 np g2 q1 kk q2 q3 q4 q5 post hs =>
  simp only [Bool.and_eq_true, beq_iff_eq] at hs
  obtain ⟨⟨⟨⟨⟨⟨⟨h1, h2⟩, rfl⟩, h4⟩, h5⟩, rfl⟩, h7⟩, h8⟩ := hs
  · have hst : startStore sp_law_lays.fd args = startStore fd_law_lays args := by rw [sp_law_lays, specFor_fd]
    rw [hst] at S
    refine l_seg M.ok hΦ k o (fd_law_lays.body.take 12) [s0, s1, s2, s3, s4, s5, s6, s7, s8, s9, s10, s11] _ _ s rfl h1 hd1 S fun s' W' S' t' hg' => ?_
    have hb' : AllBare s'.gens := hg' ▸ hb
    have hno : 17 ∉ c.own := by rw [k.own]; show 17 ∉ sp_law_lays.fd.own; rw [sp_law_lays, specFor_fd]; decide
    have hi1 : c.names[17]? = some g1 := by rw [k.names]; exact h2
    have hcl : es24.clean c.own = true := by rw [k.own]; show es24.clean sp_law_lays.fd.own = true; rw [sp_law_lays, specFor_fd]; decide
    refine wpAny_execs_cons (l_try M.ok hΦ X k o S' hb' hi1 hno hcl h4 h5 h7 hxs L hout fun s3 h0 k3 o3 S3 hU t3 => ?_)
    refine l_end (c := { c with h0 := h0 }) M.ok hΦ k3 o3 h8 hd S3 fun v s4 W4 fp r u t4 _ => ?_
    exact h v s4 W4 fp r (fun a ha => (hU.u a).mp (u a ha)) ((t'.trans t3 (S.outerAt o)).trans (LS.re (c' := { c with h0 := h0 }) rfl t4) (S.outerAt o))
end
end Mine

namespace Mine
open PySem PyProof.Rows PySem.W
set_option autoImplicit false
set_option maxRecDepth 100000
structure GenOk (m : Mod) (B0 : Heap) : Prop where
  bm : ∃ bm ob, BMod B0 mainGlobals m.mg bm ob
  code : ∀ x a ob fdd, m.fns[23]? = some (x, a) → B0.get? a = some ob → ob.data = .func fdd → fdd.code = .ref m.tc
section
variable {prog : Program} {w : World} {m : Mod} {B0 : Heap} {n fuel : Nat} {c : Cx} {l : List Env} {W W' : List Addr} {σ : Store} {s s' : Shared} {ck : Ck} {Φ : Nat → List PyData → Option PyData} {C : Addr}
theorem lt_ne {a b : Addr} (h : a < b) (e : a = b) : False := Nat.lt_irrefl b (e ▸ h)
theorem closure_none {scope : Scope} {env : Env} (h : scope.names.all (fun y => y.2 != .free) = true) : closureFor scope env = pure [] := by
  unfold closureFor
  generalize scope.names = l at h
  have : ∀ (l : List (Str × NameKind)), l.all (fun y => y.2 != .free) = true → ∀ cs : List (Str × Addr), (forIn l cs fun (x : Str × NameKind) (r : List (Str × Addr)) => if (x.2 == .free) = true then (do let a ← cellOf env x.1; pure (ForInStep.yield ((x.1, a) :: r))) else pure (ForInStep.yield r)) = (pure cs : Sem (List (Str × Addr))) := by
    intro l
    induction l with
    | nil => intro _ cs; rfl
    | cons y l ih =>
      intro h cs
      simp only [List.all_cons, Bool.and_eq_true] at h
      rw [List.forIn_cons]
      have hy : ¬ ((y.2 == NameKind.free) = true) := by have := h.1; simpa using this
      simp only [if_neg hy, pure_bind]
      exact ih h.2 cs
  have q := this l h []
  simp only [bind_pure]
  exact q
noncomputable def notList (e : Expr) : Bool := decide (e.ctorIdx ≠ 24)
noncomputable def eltOk (scope : Scope) (x : Str) (e : Expr) : Bool := onCmp1 e fun l op r => decide (op = .Is) && onCall l (fun f xs ks _ => ks.isEmpty && onName f (fun t _ => t == Str.ofString "type" && scope.names.lookup t == some .globalImplicit) && onOne xs fun a => onName a fun y _ => y == x) && onName r fun T _ => T == Str.ofString "int" && scope.names.lookup T == some .globalImplicit
theorem eltOk_inv {scope : Scope} {x : Str} {e : Expr} (h : eltOk scope x e = true) : ∃ p p1 p2 p3 p4, e = .Compare (.Call (.Name (Str.ofString "type") p) [.Name x p1] [] p2) [.Is] [.Name (Str.ofString "int") p3] p4 ∧ scope.names.lookup (Str.ofString "type") = some .globalImplicit ∧ scope.names.lookup (Str.ofString "int") = some .globalImplicit := by
  obtain ⟨l, op, r, p4, rfl, i1⟩ := onCmp1_inv h
  clear h
  have i2 := (two i1).2
  have i3 := (two (two i1).1).2
  have i0 := of_decide_eq_true (two (two i1).1).1
  clear i1
  subst i0
  obtain ⟨T, p3, rfl, h2⟩ := onName_inv i2
  clear i2
  obtain ⟨f, xs, ks, p2, rfl, i4⟩ := onCall_inv i3
  clear i3
  have i5 := (two i4).2
  have h4 := (two (two i4).1).1
  have i6 := (two (two i4).1).2
  clear i4
  obtain ⟨t, p, rfl, h5⟩ := onName_inv i6
  clear i6
  obtain ⟨a, rfl, i7⟩ := onOne_inv i5
  clear i5
  obtain ⟨y, p1, rfl, h3⟩ := onName_inv i7
  clear i7
  cases nil_of h4
  cases eq_of_beq h3
  cases eq_of_beq (two h5).1
  cases eq_of_beq (two h2).1
  exact ⟨p, p1, p2, p3, p4, rfl, eq_of_beq (two h5).2, eq_of_beq (two h2).2⟩
theorem genFold_no {iter : Expr} {env : Env} (h7 : notSet iter = true) (h8 : notList iter = true) (v : Value) : genFold iter env v = pure v := by
  cases iter <;> first | exact (Bool.false_ne_true h8).elim | exact set_of (env := env) h7 v
noncomputable def genShape (ck : Ck) (scope : Scope) (x : Str) (iter elt : Expr) : Bool :=
  !scope.isCoroutine && scope.names.all (fun y => y.2 != .free) && scope.names.all (fun y => y.2 != .cell) && scope.names.lookup (".0" : Str) == some NameKind.local && scope.names.lookup x == some .local && scope.kind == .function && notSet iter &&
  notList iter && tame x &&
  eltOk scope x elt
inductive IntsIn (h : Heap) : Value → Prop
  | mk (a : Addr) (its : Array Value) (hl : h.IsList a its) (hi : ∀ (i : Nat) (v : Value), its[i]? = some v → ∃ (z : Int) (t : Tok), v = Value.int z t) : IntsIn h (.ref a)
theorem ints_in {h : Heap} {v : Value} {ds : List PyData} {fp : List Addr} (rd : Rd h v (.list ds) fp) (hint : ds.all isIntD = true) : IntsIn h v := by
  obtain ⟨a, vs, as, rfl, rfl, p1, r1⟩ := rd_list rd
  refine ⟨_, _, plainL_list p1, fun i v hv => ?_⟩
  have hv' : _ := (List.getElem?_toArray ..).symm.trans hv
  have hi : i < ds.length := by rw [← r1.length]; exact (List.getElem?_eq_some_iff.mp hv').1
  obtain ⟨v', fp', e1, e2, _⟩ := r1.get (List.getElem?_eq_getElem hi)
  rw [hv'] at e1; cases e1
  have hdi := List.all_eq_true.mp hint _ (List.getElem_mem hi)
  generalize ds[i] = q at e2 hdi
  obtain ⟨z, rfl⟩ := isIntD_inv hdi
  obtain ⟨t, rfl⟩ := rd_int e2
  exact ⟨_, _, rfl⟩
theorem gen_sat {c' : CE} {x : Str} {z : Int} {t : Tok} {s : Shared} (md : m.In s.heap) (hU : ∀ a, c'.U a) (hW : c'.W = []) (hn : c'.names = [x]) (ho : c'.own = []) (V : VarAt c'.env s.heap x (.int z t)) : SatE m c' [some (.int z)] s := by
  refine ⟨md, fun a _ => ⟨hU a, fun q => by rw [hW] at q; cases q⟩, fun i d e => ?_⟩
  cases i with
  | succ i => exact nomatch e
  | zero =>
    cases e
    exact ⟨x, _, [], by rw [hn]; rfl, V, .int z t, fun _ q => (nomatch q), fun _ _ q => (nomatch q), fun q => by rw [ho] at q; cases q⟩
theorem gen_quiet (hm : m.Ok) (hmd : m.In B0) {env : Env} (hg : env.globals = mainGlobals) {scope : Scope} {x : Str} {elt : Expr} {code : Value} {N I : Nat} (h5 : scope.names.lookup x = some .local) (h6 : scope.kind = .function) (h9 : tame x = true) (h10 : eltOk scope x elt = true)
    {P : Nat → Value → Prop} (hints : ∀ i v, P i v → ∃ (z : Int) (t : Tok), v = Value.int z t) {href : Heap} (hB : ∀ b ob, B0.get? b = some ob → b < N ∧ b ≠ I ∧ href.get? b = some ob) :
    QuietGen prog w (genEnv scope [] N code builtinsNs env) x [] elt (List.range N) [I] P (fun _ => true) (fun _ y => y = .bool true) href := by
  refine ⟨fun A' E' i v s₂ m₂ hA hP hn hm' hk => wpAny_pure ⟨rfl, Keeps.rfl' _⟩, fun A' E' i v s₂ m₂ hA hP _ hn hm' hk => ?_⟩
  obtain ⟨z, t, rfl⟩ := hints i v hP
  have md : m.In s₂.heap := hmd.keeps fun b ob' e => hk b (List.mem_range.mpr (hB _ _ e).1) (fun q => (hB _ _ e).2.1 (List.mem_singleton.mp q)) ob' (hB _ _ e).2.2
  obtain ⟨_, _, _, _, _, rfl, g1, g2⟩ := eltOk_inv h10
  let c' : CE := { A := A', env := genEnv scope [] N code builtinsNs env, names := [x], own := [], U := fun _ => True, W := [] }
  refine e_typeIs (c := c') (Φ := fun _ _ => none) (a := .var 0) (T := "int") hm ⟨h6, hg, rfl⟩ g1 (.inl rfl) g2 (by intro _ _ q; cases q) (e_var h6 rfl (tame_parts h9).1 (tame_parts h9).2) [some (.int z)] (.bool true) s₂ rfl (gen_sat md (fun _ => trivial) rfl rfl rfl (.inl ⟨h5, m₂, hn, hm'⟩)) _ E' fun v s₃ fp oo => ?_
  obtain ⟨k2, r2, -⟩ := oo
  cases r2
  exact ⟨rfl, k2⟩
theorem gen_step {s s₁ s₃ s' : Shared} {h₅ : Heap} {gs : GenState} {tk : Nat} (hK : m.Tbl s.heap) (kk : Keeps s s₁) (hs₃ : ∃ h₃ tk₃, s₃ = { s₁ with heap := h₃, toks := tk₃ }) (hx : ∀ b ob, b ≠ m.tp → s₁.heap.get? b = some ob → h₅.get? b = some ob) (hT : m.Tbl h₅)
    (hPs : m.tp < s₁.heap.objs.size) (hcs : m.tc < s₁.heap.objs.size) (hIlt : s₁.heap.objs.size < s₃.heap.objs.size) (hgs : gs.bare = true)
    (hmv : Moved [s₃.heap.objs.size, s₁.heap.objs.size] (GenOnlyQ s₃.gens.size) { s₃ with gens := s₃.gens.push gs, toks := tk, heap := h₅ } s') : LStep m l s s' := by
  have hlow : ∀ b ob', b < s₁.heap.objs.size → h₅.get? b = some ob' → s'.heap.get? b = some ob' := fun b ob' hb1 e => hmv.heap b ob' (fun q => by
    rcases List.mem_cons.mp q with e' | q
    · exact lt_ne (Nat.lt_trans hb1 hIlt) e'
    · exact lt_ne hb1 (List.mem_singleton.mp q)) e
  have keepAll : ∀ b ob', b ≠ m.tp → s.heap.get? b = some ob' → s'.heap.get? b = some ob' := fun b ob' hb' e =>
    hlow b ob' (Heap.lt_size (Keeps.keep kk b ob' e)) (hx b ob' hb' (Keeps.keep kk b ob' e))
  refine ⟨?_, fun hbare => ?_, fun b ob' _ hb' e => keepAll b ob' hb' e, fun b ob' e hd' => ⟨ob'.slots, keepAll b ob' (fun q => ?_) e⟩, fun _ => hT.at2 (fun o e => hlow _ o hPs e) (fun o e => hlow _ o hcs e)⟩
  · obtain ⟨h₁, tk₁, rfl, _⟩ := kk
    obtain ⟨h₃, tk₃, rfl⟩ := hs₃
    refine ⟨s'.heap, s'.toks, s'.gens, ?_⟩
    have q1 := hmv.drawn
    have q2 := hmv.os
    obtain ⟨hp', g', d', tk', os'⟩ := s'
    simp only at q1 q2
    subst q1 q2; rfl
  · refine hmv.gens.bare (AllBare.push ?_ hgs)
    obtain ⟨h₁, tk₁, rfl, _⟩ := kk
    obtain ⟨h₃, tk₃, rfl⟩ := hs₃
    exact hbare
  · obtain ⟨op, vp, e1, d1⟩ := hK.p
    rw [← q, e] at e1; cases e1; exact hd' _ d1
theorem all_ints (hm : m.Ok) (hΦ : CallOk prog w m Φ n) (G : GenOk m B0) (k : CkxOk m n ck c) (o : LOk m B0 c l) (S : Sat m c σ W s) (hb : AllBare s.gens) (hcode : c.env.code = .ref m.tc) {iter elt : Expr} {x : Str} {px gpos p np : Pos} {scope : Scope} {src : PE} (hg : genShape ck scope x iter elt = true)
    (hall : ck.glob (Str.ofString "all") = true) (hck : chkE ck src iter = true) {ds : List PyData} (hd : denE Φ src σ = some (.list ds)) (hint : ds.all isIntD = true) {Q E : Value → Shared → Prop} (h : ∀ s', LStep m (c.env :: l) s s' → Q (.bool true) s') :
    wpAny (model prog w) c.A (eval (.Call (.Name (Str.ofString "all") np) [.GeneratorExp elt [⟨.Name x px, iter, [], 0⟩] scope gpos] [] p) c.env) Q E s := by
  simp only [genShape, Bool.and_eq_true, beq_iff_eq, Bool.not_eq_true'] at hg
  obtain ⟨⟨⟨⟨⟨⟨⟨⟨⟨h1, h2⟩, h3⟩, h4⟩, h5⟩, h6⟩, h7⟩, h8⟩, h9⟩, h10⟩ := hg
  have K := S.stk k.cx o
  refine call1_builtin (c := c.ce W) hm (k.cx.envOk W) (x := "all") (by decide) (glob_of (k.ce W) hall) (by decide) S.e (by intro _ _ q; cases q) ?_
  have hroom : c.A.depth < recursionLimit := by have := k.cx.A.depth; lia
  refine wpAny_GeneratorExp_walksQ k.cx.A.handled h1 (closure_none h2) (fun y hy => by have := List.all_eq_true.mp h3 y hy; simpa using this) h4 h5 h6 hroom ?_ (fun v => ?_)
  · refine ev1 (c := c.ce W) (soundE hm hΦ src iter ck (c.ce W) (k.ce W) hck) hd S.e fun v s₁ fp oo S₁ => ?_
    obtain ⟨kk, rd, -⟩ := oo
    have Sm := S.mono kk
    have K₁ := Sm.stk k.cx o
    obtain ⟨a, its, hl, hints⟩ := ints_in rd hint
    refine wpAny_pyIter_list hl ?_
    have hPs : m.tp < s₁.heap.objs.size := let ⟨_, _, e, _⟩ := K₁.tbl.p; Heap.lt_size e
    have hal : a < s₁.heap.objs.size := by obtain ⟨_, e, _⟩ := hl; exact Heap.lt_size e
    have haP : a ≠ m.tp := fun e => by
      obtain ⟨ob, e1, e2, _⟩ := hl
      obtain ⟨_, _, _, e4⟩ := K₁.tbl
      rw [e, e4] at e1; cases e1; exact absurd e2 (by simp)
    have k12 : Keep s₁.heap (s₁.heap.push { cls := .type "list_iterator", data := .fields #[.ref a, .int 0 0] }) := fun b ob e => Heap.get?_push_of_some _ e
    have T₂ := K₁.tbl.keeps k12
    have md₂ := K₁.md'.keeps k12
    refine ⟨md₂.nolimit, ?_⟩
    have rest : ∀ (code : Value) (s₃ : Shared), (∃ h₃ tk₃, s₃ = { s₁ with heap := h₃, toks := tk₃ }) → Heap.ExtBut m.tp (s₁.heap.push { cls := .type "list_iterator", data := .fields #[.ref a, .int 0 0] }) s₃.heap → m.Tbl s₃.heap → (s₁.heap.push { cls := .type "list_iterator", data := .fields #[.ref a, .int 0 0] }).objs.size ≤ s₃.heap.objs.size → (∀ b ob, B0.get? b = some ob → s₃.heap.get? b = some ob) →
        wpAny (model prog w) c.A (builtinsFor c.env.globals c.env.builtins) (fun bi s₄ =>
        ∃ I fp wr n₀ P St₀ pz F, Value.ref s₁.heap.objs.size = .ref I ∧ (∀ A' : Around, A'.handled = none → Walks prog w A' I fp wr n₀ P St₀) ∧ St₀ 0 s₄.heap ∧ (∀ b ∈ fp, b < s₄.heap.objs.size) ∧ s₄.heap.NoLimit ∧ cStatics ∉ wr ∧
          (∀ href : Heap, (∀ b o, s₄.heap.get? b = some o → href.get? b = some o) →
            QuietGen prog w (genEnv scope [] s₄.heap.objs.size code bi c.env) x [] elt (List.range s₄.heap.objs.size) wr P pz F href) ∧
          (∀ a h₅ tk gs, gs.bare = true → s₄.heap.objs.size < a → h₅.objs.size = a + 1 → (∀ b o, s₄.heap.get? b = some o → h₅.get? b = some o) →
            WalksS prog w c.A.in4 a (a :: s₄.heap.objs.size :: List.range s₄.heap.objs.size) (s₄.heap.objs.size :: wr) (GenOnlyQ s₄.gens.size) (passing pz n₀ 0).length
              (fun j y => ∃ i, (passing pz n₀ 0)[j]? = some i ∧ F i y) (GenAt prog w c.A.in4 a s₄.gens.size s₄.heap.objs.size (List.range s₄.heap.objs.size) wr pz n₀ F) →
            GenAt prog w c.A.in4 a s₄.gens.size s₄.heap.objs.size (List.range s₄.heap.objs.size) wr pz n₀ F 0 { s₄ with gens := s₄.gens.push gs, toks := tk, heap := h₅ } →
            wpAny (model prog w) c.A (call (.builtin "all") [.ref a]) Q E { s₄ with gens := s₄.gens.push gs, toks := tk, heap := h₅ })) E s₃ := by
      intro code s₃ hs₃ hx₃ hT₃ hsz hB₃
      obtain ⟨bm, ob, BM⟩ := G.bm
      have BM₃ := BM.keeps hB₃
      refine wpAny_builtinsFor (by rw [show c.env.globals = mainGlobals from k.cx.hg]; exact BM₃.ns) BM₃.name BM₃.ne BM₃.obj BM₃.cls BM₃.dict BM₃.data ?_
      have md₃ : m.In s₃.heap := o.md.keeps hB₃
      rw [Heap.size_push] at hsz
      have hIlt : s₁.heap.objs.size < s₃.heap.objs.size := hsz
      have hIne : s₁.heap.objs.size ≠ m.tp := Nat.ne_of_gt hPs
      refine ⟨s₁.heap.objs.size, [s₁.heap.objs.size, a], [s₁.heap.objs.size], its.size, _, _, fun _ => true, fun _ y => y = .bool true, rfl, (fun A' hA => Walks.list hA _ _ (Nat.ne_of_lt hal) its), ⟨⟨_, hx₃ _ _ hIne (Heap.get?_push_size _ rfl), rfl, rfl⟩, ?_⟩, ?_, md₃.nolimit, ?_, ?_, ?_⟩
      · obtain ⟨ob', e1, r⟩ := hl
        exact ⟨ob', hx₃ _ _ haP (k12 _ _ e1), r⟩
      · intro b hb'
        rcases List.mem_cons.mp hb' with rfl | hb'
        · exact hIlt
        · rcases List.mem_cons.mp hb' with rfl | hb'
          · exact Nat.lt_trans hal hIlt
          · cases hb'
      · intro hm'
        have hc : cStatics < s₁.heap.objs.size := let ⟨_, hn, _⟩ := K₁.md'.nolimit; hn.lt
        rcases List.mem_cons.mp hm' with e | hb'
        · exact absurd (e ▸ hc) (Nat.lt_irrefl _)
        · cases hb'
      · intro href hhref
        exact gen_quiet hm o.md k.cx.hg h5 h6 h9 h10 hints fun b ob' e => ⟨Heap.lt_size (hB₃ _ _ e), fun q => lt_ne (Heap.lt_size (K₁.stays _ _ e)) q, hhref _ _ (hB₃ _ _ e)⟩
      · intro ag h₅ tk gs hgs hlt hsz₅ hk₅ Wk hst
        have Wk := Wk.in4_1
        refine call_all_walkS (Wk.self 0 _ _ _ hst ⟨ag, _, _, _, _, _, _, fun _ => true, rfl, Wk, hst, ?_, fun s' hmv => ?_⟩)
        · rintro j v s'' Q' E' ⟨i, _, rfl⟩ hQ'
          exact wpAny_truthy_bool hQ'
        · have hres : (List.range (passing (fun _ => true) its.size 0).length).all (fun _ => true) = true := by simp
          rw [hres]
          have hcs : m.tc < s₁.heap.objs.size := let ⟨_, _, e, _⟩ := K₁.tbl.c; Heap.lt_size e
          exact h s' (gen_step K.tbl kk hs₃ (fun b ob' hb' e => hk₅ b ob' (hx₃ b ob' hb' (k12 b ob' e))) (hT₃.keeps hk₅) hPs hcs hIlt hgs hmv)
    have hB₂ : ∀ b ob, B0.get? b = some ob → (s₁.heap.push { cls := .type "list_iterator", data := .fields #[.ref a, .int 0 0] }).get? b = some ob := fun b ob e => k12 _ _ (K₁.stays b ob e)
    obtain ⟨more, ic, ta⟩ := T₂
    cases hf : codeAmong gpos (m.tps ++ more).toList with
    | none =>
      refine wpAny_genexprCodeX hcode ic ta hf fun c' h₃ tk₃ hx₃ hge hlt hcode₃ _ htab₃ _ => ?_
      refine rest _ _ ⟨h₃, tk₃, rfl⟩ hx₃ ⟨more ++ #[rawInt gpos.line, rawInt gpos.col, .ref c'], ?_, ?_⟩ (Nat.le_trans hge (Nat.le_of_lt hlt)) fun b ob e => hx₃ b ob (fun q => by rw [q, o.hideP] at e; cases e) (hB₂ b ob e)
      · rw [← Array.append_assoc]; exact hcode₃
      · rw [← Array.append_assoc]; exact htab₃
    | some c' =>
      refine wpAny_genexprCode_hit hcode ic hf ?_
      exact rest _ _ ⟨_, s₁.toks, rfl⟩ (fun b ob _ e => e) ⟨more, ic, ta⟩ (Nat.le_refl _) hB₂
  · exact genFold_no h7 h8 v
end
end Mine

namespace Mine
open PySem PyProof.Rows PySem.W
set_option autoImplicit false
set_option maxRecDepth 100000
section
variable {prog : Program} {w : World} {m : Mod} {B0 : Heap} {n fuel : Nat} {c : Cx} {l : List Env} {W W' : List Addr} {σ : Store} {s s' : Shared} {ck : Ck} {Φ : Nat → List PyData → Option PyData} {C : Addr}
theorem bare_of_LS (t : LS m c l W s s' W') (h : AllBare s.gens) : AllBare s'.gens := t.bare h
theorem lif_not (hm : m.Ok) (hΦ : CallOk prog w m Φ n) (k : CkxOk m n ck c) (o : LOk m B0 c l) (S : Sat m c σ W s) (hb : AllBare s.gens) {f : Nat} {es : PEs} {call : Expr} (hck : chkE ck (.call f es) call = true) (hpt : plainTest call = true) {xs : List PyData} (hxs : denEs Φ es σ = some xs) (L : LSpec prog w m B0 n f xs (.ret (.bool true)))
    {body : List Stmt} {p1 p2 : Pos} {Q : Flow → Shared → Prop} {E : Value → Shared → Prop}
    (h : ∀ s' h0, CkxOk m n ck { c with h0 := h0 } → LOk m B0 { c with h0 := h0 } l → Sat m { c with h0 := h0 } σ W s' → SameDom c h0 → LS m c l W s s' W → Q .next s') :
    wpAny (model prog w) c.A (exec (.If (.UnaryOp .Not call p1) body [] p2) c.env) Q E s := by
  have he : isTrue call c.env (eval call c.env) = (do let v ← eval call c.env; standAt call.pos; holding [v] (truthy v)) := by
    exact plain_of hpt
  refine wpAny_If (isTrue_not (isTrue_plain (lcall hm hΦ k o S hb hck hxs L ?_) he))
  intro v s' fp t r u cl
  cases r
  refine wpAny_truthy_bool (wpAny_execs_nil ?_)
  obtain ⟨k', o', S', hU, t'⟩ := S.loose k o t
  exact h s' _ k' o' S' hU t'
theorem lif_ne (hm : m.Ok) (hΦ : CallOk prog w m Φ n) (k : CkxOk m n ck c) (o : LOk m B0 c l) (S : Sat m c σ W s) (hb : AllBare s.gens) {f : Nat} {es : PEs} {call : Expr} (hck : chkE ck (.call f es) call = true) {xs : List PyData} (hxs : denEs Φ es σ = some xs) {y : Str} (L : LSpec prog w m B0 n f xs (.ret (.str y))) (hy : dCmp .ne (.str y) (.str y) = some false)
    {body : List Stmt} {p1 p2 p3 : Pos} {kk : Nat} {Q : Flow → Shared → Prop} {E : Value → Shared → Prop}
    (h : ∀ s' h0, CkxOk m n ck { c with h0 := h0 } → LOk m B0 { c with h0 := h0 } l → Sat m { c with h0 := h0 } σ W s' → SameDom c h0 → LS m c l W s s' W → Q .next s') :
    wpAny (model prog w) c.A (exec (.If (.Compare call [.NotEq] [.Constant (.str y) kk p1] p3) body [] p2) c.env) Q E s := by
  refine wpAny_If (wpAny_isTrue_Compare1 (lcall hm hΦ k o S hb hck hxs L ?_) rfl)
  intro v s' fp t r u cl
  refine Calls.Constant_str ?_
  have hu : c.A.units + 100 < cLine := AOk.units' k.cx.A
  refine cmp_step (o := .ne) hy hu (fp := fp) (fq := []) (s := { s' with toks := s'.toks + 1 }) r (.str y _) fun s'' kk' => wpAny_truthy_bool (wpAny_execs_nil ?_)
  have t2 : LStep m (c.env :: l) s s'' := t.trans (LStep.of_keeps (Keeps.trans' (Keeps.tok s' _) kk'))
  obtain ⟨k', o', S', hU, t'⟩ := S.loose k o t2
  exact h s'' _ k' o' S' hU t'
theorem lif_all (hm : m.Ok) (hΦ : CallOk prog w m Φ n) (G : GenOk m B0) (k : CkxOk m n ck c) (o : LOk m B0 c l) (S : Sat m c σ W s) (hb : AllBare s.gens) (hcode : c.env.code = .ref m.tc) {iter elt : Expr} {x : Str} {px gpos p np : Pos} {scope : Scope} {src : PE} (hg : genShape ck scope x iter elt = true)
    (hall : ck.glob (Str.ofString "all") = true) (hck : chkE ck src iter = true) {ds : List PyData} (hd : denE Φ src σ = some (.list ds)) (hint : ds.all isIntD = true) {body : List Stmt} {p1 p2 : Pos} {Q : Flow → Shared → Prop} {E : Value → Shared → Prop}
    (h : ∀ s' h0, CkxOk m n ck { c with h0 := h0 } → LOk m B0 { c with h0 := h0 } l → Sat m { c with h0 := h0 } σ W s' → SameDom c h0 → LS m c l W s s' W → Q .next s') :
    wpAny (model prog w) c.A (exec (.If (.UnaryOp .Not (.Call (.Name (Str.ofString "all") np) [.GeneratorExp elt [⟨.Name x px, iter, [], 0⟩] scope gpos] [] p) p1) body [] p2) c.env) Q E s := by
  refine wpAny_If (isTrue_not (isTrue_plain (all_ints hm hΦ G k o S hb hcode hg hall hck hd hint fun s' t => ?_) rfl))
  refine wpAny_truthy_bool (wpAny_execs_nil ?_)
  obtain ⟨k', o', S', hU, t'⟩ := S.loose k o t
  exact h s' _ k' o' S' hU t'
noncomputable def turnSt (σ : Store) (i : Nat) (items : List PyData) : Nat → Store
  | 0 => σ
  | j + 1 => σ.set i items[j]?
theorem turnSt_set (σ : Store) (i : Nat) (items : List PyData) (j : Nat) (d : PyData) : List.set (turnSt σ i items j) i (some d) = List.set σ i (some d) := by
  cases j with
  | zero => rfl
  | succ j => exact List.set_set ..
inductive LInv (m : Mod) (n : Nat) (ck : Ck) (c : Cx) (B0 : Heap) (l : List Env) (σ : Store) (i : Nat) (items : List PyData) (W : List Addr) (s s₂ : Shared) (I : Addr) (fps : List Addr) (St : Nat → Heap → Prop) (q : Nat) (s' : Shared) : Prop
  | mk (j : Nat) (h0 : Heap) (e : j + q = items.length) (h1 : CkxOk m n ck { c with h0 := h0 }) (h2 : LOk m B0 { c with h0 := h0 } l) (h3 : Sat m { c with h0 := h0 } (turnSt σ i items j) W s') (h4 : SameDom c h0) (h5 : LS m c l W s s' W) (h6 : AllBare s'.gens) (h7 : h0.get? I = none) (h8 : St j s'.heap)
      (h9 : ∀ a ∈ fps, a ≠ m.tp → ∀ o, s₂.heap.get? a = some o → s'.heap.get? a = some o) : LInv m n ck c B0 l σ i items W s s₂ I fps St q s'
theorem lfor (k : CkxOk m n ck c) (o : LOk m B0 c l) (S : Sat m c σ W s) (hb : AllBare s.gens) {i : Nat} {x : Str} {src : PE} {iter : Expr} {bs : List Stmt} {px pos : Pos} (hi : c.names[i]? = some x) (hno : i ∉ c.own) (hcl : src.clean c.own = true)
    (hset : ∀ v, foldedSetIterable iter c.env v = pure v) (hs : ∀ W, SrcOk prog w m Φ (c.ce W) false src iter) {y : PyData} {items : List PyData} (hy : denE Φ src σ = some y) (hit : itemsOf false y = some items)
    (hbody : ∀ (j : Nat) (hj : j < items.length) h0 s', CkxOk m n ck { c with h0 := h0 } → LOk m B0 { c with h0 := h0 } l → Sat m { c with h0 := h0 } (σ.set i (some items[j])) W s' → SameDom c h0 → AllBare s'.gens → ∀ (Q' : Flow → Shared → Prop) (E' : Value → Shared → Prop),
      (∀ s'' h1, CkxOk m n ck { c with h0 := h1 } → LOk m B0 { c with h0 := h1 } l → Sat m { c with h0 := h1 } (σ.set i (some items[j])) W s'' → SameDom c h1 → LS m c l W s' s'' W → Q' .next s'') → wpAny (model prog w) c.A (execs bs c.env) Q' E' s')
    {Q : Flow → Shared → Prop} {E : Value → Shared → Prop}
    (h : ∀ s' h0, CkxOk m n ck { c with h0 := h0 } → LOk m B0 { c with h0 := h0 } l → Sat m { c with h0 := h0 } (turnSt σ i items items.length) W s' → SameDom c h0 → LS m c l W s s' W → Q .next s') :
    wpAny (model prog w) c.A (exec (.For (.Name x px) iter bs [] pos) c.env) Q E s := by
  refine wpAny_For (iter_any (c := c.ce W) k.cx.A.handled (hs W) hy hit S.e fun I s₂ fpw fps P St it S₂ => ?_) hset
  have hI0 : c.h0.get? I = none := none_of_keep S.keep it.new
  have hout := S.outerAt o
  have hIU : c.U I := it.iu.1
  have hIP : I ≠ m.tp := fun q => by obtain ⟨op, _, e, _⟩ := hout.tbl.p; have z := it.new; rw [q, e] at z; cases z
  have hfp : ∀ a ∈ fps, a ≠ I := fun a ha q => it.off (q ▸ ha)
  have hIl : I ∉ frs l := o.notU k.cx hIU
  have hfl : ∀ a ∈ fps, a ∉ frs l := fun a ha => o.notU k.cx (it.u a ha)
  have hb₂ : AllBare s₂.gens := by obtain ⟨_, _, rfl, _⟩ := it.kp; exact hb
  refine codeAny_forLoop (LInv m n ck c B0 l σ i items W s s₂ I fps St) ?_ items.length
    ⟨0, c.h0, by lia, k, o, S.mono it.kp, (fun _ => Iff.rfl), LS.of_step k.cx o S (Step.of_keeps S it.kp), hb₂, hI0, it.st, fun _ _ _ _ e => e⟩
  rintro q s' ⟨j, h0, hj, k', o', S', hU', t', hb', hI0', hSt, hkp⟩
  obtain ⟨oI, wsI, eI, dI⟩ := it.flds j _ hSt
  have turnLS : ∀ {s' : Shared} {h' : Heap} {tk : Nat}, LS m c l W s s' W → (∀ b o, b ∉ [I] → s'.heap.get? b = some o → h'.get? b = some o) → LS m c l W s { s' with heap := h', toks := tk } W := by
    intro s' h' tk t hk
    have kp : ∀ b o, b ≠ I → s'.heap.get? b = some o → h'.get? b = some o := fun b o hn e => hk b o (fun q => hn (List.mem_singleton.mp q)) e
    refine ⟨?_, t.bare, fun b o h1 h2 h3 h4 e => kp b o (fun q => by subst q; rw [it.new] at e; cases e) (t.keep b o h1 h2 h3 h4 e), fun b o hbl e hd => ?_, t.grow, fun b hb => let ⟨o, e⟩ := t.fix b hb; ⟨o, kp b o (fun q => hIU.1 (q ▸ hb)) e⟩, fun x => ?_⟩
    · obtain ⟨_, _, _, rfl⟩ := t.same; exact ⟨_, _, _, rfl⟩
    · obtain ⟨sl, q⟩ := t.slot b o hbl e hd
      exact ⟨sl, kp b _ (fun z => hIl (z ▸ hbl)) q⟩
    · obtain ⟨oc, _, ec, _⟩ := hout.tbl.c
      have hIc : I ≠ m.tc := fun q => by have z := it.new; rw [q, ec] at z; cases z
      exact (t.tbl x).at2 (fun o e => kp _ o (Ne.symm hIP) e) (fun o e => kp _ o (Ne.symm hIc) e)
  by_cases hlt : j < items.length
  · refine it.wk.item j s' _ _ hlt hSt fun v h' tk hP hSt' hk' => ?_
    have S1 : Sat m { c with h0 := h0 } (turnSt σ i items j) W { s' with heap := h', toks := tk } := S'.turned k'.cx eI dI ((hU'.u I).mpr hIU) it.iu.2 hI0' hk'
    have t1 := turnLS (tk := tk) t' hk'
    obtain ⟨fp, r0, sub⟩ := it.item j v hP items[j] (by simp [hlt])
    have hfpP : ∀ a ∈ fp, a ≠ m.tp := fun a ha q => by
      have T₂ := hout.tbl.keeps (Keeps.keep it.kp)
      obtain ⟨op, vp, e1, d1⟩ := T₂.p
      exact rd_not_fields e1 d1 r0 (q ▸ ha)
    have r1 : Rd h' v items[j] fp := r0.at fun a ha o e => hk' a o (fun q => it.off (List.mem_singleton.mp q ▸ sub a ha)) (hkp a (sub a ha) (hfpP a ha) o e)
    refine wpAny_assign_Name (store_var' (c := { c with h0 := h0 }) k'.cx S1 (Keeps.rfl' _) (List.mem_of_getElem? hi) fun h'' tk' st kp => ?_)
    have r2 : Rd h'' v items[j] fp := r1.at fun a ha o e => kp a o (it.u a (sub a ha)).1 e
    obtain ⟨S2, st2⟩ := S1.assign k'.cx ⟨_, _, rfl⟩ hi (tk := tk') r2 (fun a ha => (hU'.u a).mpr (it.u a (sub a ha))) st hno (fun a ha => it.cl hcl a (sub a ha))
    rw [turnSt_set] at S2
    have t2 := t1.trans (LS.re (c' := { c with h0 := h0 }) rfl (LS.of_step k'.cx o' S1 st2)) hout
    have hb2 : AllBare ({ s' with heap := h'', toks := tk' } : Shared).gens := hb'
    refine hbody j hlt h0 _ k' o' S2 hU' hb2 _ _ fun s3 h1 k3 o3 S3 hU3 t3 => ?_
    have e3 : turnSt σ i items (j + 1) = σ.set i (some items[j]) := by show σ.set i items[j]? = _; rw [List.getElem?_eq_getElem hlt]
    refine ⟨q - 1, by lia, j + 1, h1, by lia, k3, o3, e3 ▸ S3, hU3, t2.trans t3 hout, t3.bare hb2, ?_, ?_, ?_⟩
    · exact (hU3 I).mpr hI0
    · refine it.wk.frame (j + 1) h' s3.heap hSt' fun b hb ob e => ?_
      rcases it.sub b hb with rfl | z
      · exact t3.keep b ob hIU.1 it.iu.2 hIl hIP (kp b ob hIU.1 e)
      · exact t3.keep b ob (it.u b z).1 (it.cl hcl b z) (hfl b z) (o.notP (it.u b z)) (kp b ob (it.u b z).1 e)
    · intro a ha hap o e
      exact t3.keep a o (it.u a ha).1 (it.cl hcl a ha) (hfl a ha) hap (kp a o (it.u a ha).1 (hk' a o (fun q => it.off (List.mem_singleton.mp q ▸ ha)) (hkp a ha hap o e)))
  · have hjl : j = items.length := by lia
    subst hjl
    refine it.wk.done s' _ _ hSt fun h' tk hk' => wpAny_execs_nil ?_
    exact h _ _ k' o' (S'.turned k'.cx eI dI ((hU'.u I).mpr hIU) it.iu.2 hI0' hk') hU' (turnLS t' hk')
end
end Mine

namespace Mine
open PySem PyProof.Rows PySem.W
set_option autoImplicit false
set_option maxRecDepth 100000
section
variable {prog : Program} {w : World} {m : Mod} {B0 : Heap} {n fuel : Nat} {C : Addr}
noncomputable def ck23 : Ck := spCk fnNames twos sp_law_ways
noncomputable def src23 : PE := .cat (.cat (.idx (.var 13) (.int 0)) (.idx (.var 13) (.int 1))) (.var 14)
inductive Sh23 : List Stmt → Prop
  | mk (s0 s1 s2 s3 s4 s5 s6 s7 s8 s9 s10 s11 s12 s13 s14 s15 s16 s17 a w1 elt x w2 iter scope w3 w4 w5 w6 w7 post) (h : (chkSs ck23 (fd_law_ways.body.take 18) [s0, s1, s2, s3, s4, s5, s6, s7, s8, s9, s10, s11, s12, s13, s14, s15, s16, s17] && a == Str.ofString "all" && ck23.glob (Str.ofString "all") && genShape ck23 scope x iter elt && chkE ck23 src23 iter && chkSs ck23 (fd_law_ways.body.drop 19) post) = true) : Sh23 (s0 :: s1 :: s2 :: s3 :: s4 :: s5 :: s6 :: s7 :: s8 :: s9 :: s10 :: s11 :: s12 :: s13 :: s14 :: s15 :: s16 :: s17 :: .If (.UnaryOp .Not (.Call (.Name a w1) [.GeneratorExp elt [⟨.Name x w2, iter, [], 0⟩] scope w3] [] w4) w5) w6 [] w7 :: post)
theorem shape23_ok : Sh23 sp_law_ways.body := (show sp_law_ways.body = textAt 26 by kernel_rfl) ▸ Sh23.mk _ _ _ _ _ _ _ _ _ _ _ _ _ _ _ _ _ _ _ _ _ _ _ _ _ _ _ _ _ _ _ (by decide +kernel)
theorem ways_ret (M : ModOk m) (G : GenOk m B0) {args : List PyData} {d : PyData} {σ₁ : Store} {ds : List PyData} (hlen : args.length = 5) (hd1 : denSs (callD tab fuel n) fuel (fd_law_ways.body.take 18) (startStore fd_law_ways args) = some (.next σ₁))
    (hds : denE (callD tab fuel n) src23 σ₁ = some (.list ds)) (hint : ds.all isIntD = true) (hd : denSs (callD tab fuel n) fuel (fd_law_ways.body.drop 19) σ₁ = some (.ret d)) : LSpec prog w m B0 (n + 1) 23 args (.ret d) := by
  have hΦ : CallOk prog w m (callD tab fuel n) n := M.call n
  refine LSpec.of_body M.ok M.tabOk (sp := sp_law_ways) (by rw [M.specs]; rfl) (by rw [sp_law_ways, specFor_fd]; exact hlen) (by rw [sp_law_ways, specFor_fd]; rfl) fun c l s Q E k o S hb hcd h => ?_
  rw [M.twos] at k
  have hcode : c.env.code = .ref m.tc := by
    obtain ⟨a, hf⟩ := M.fn 23 _ (show fnNames[23]? = some _ from rfl)
    obtain ⟨ob, fdd, e1, e2, e3⟩ := hcd _ a hf
    rw [e3]; exact G.code _ a ob fdd hf e1 e2
  have hs := shape23_ok
  generalize sp_law_ways.body = body at hs ⊢
  cases hs with
  | mk s0 s1 s2 s3 s4 s5 s6 s7 s8 s9 s10 s11 s12 s13 s14 s15 s16 s17 al np elt x px iter scope gpos p p1 bd p2 post hs =>
  simp only [Bool.and_eq_true, beq_iff_eq] at hs
  obtain ⟨⟨⟨⟨⟨h1, rfl⟩, h3⟩, h4⟩, h5⟩, h6⟩ := hs
  · have hst : startStore sp_law_ways.fd args = startStore fd_law_ways args := by rw [sp_law_ways, specFor_fd]
    rw [hst] at S
    refine l_seg M.ok hΦ k o (fd_law_ways.body.take 18) [s0, s1, s2, s3, s4, s5, s6, s7, s8, s9, s10, s11, s12, s13, s14, s15, s16, s17] _ _ s rfl h1 hd1 S fun s' W' S' t' hg' => ?_
    have hb' : AllBare s'.gens := hg' ▸ hb
    refine wpAny_execs_cons (lif_all M.ok hΦ G k o S' hb' hcode h4 h3 h5 hds hint fun s3 h0 k3 o3 S3 hU t3 => ?_)
    refine l_end (c := { c with h0 := h0 }) M.ok hΦ k3 o3 h6 hd S3 fun v s4 W4 fp r u t4 _ => ?_
    exact h v s4 W4 fp r (fun a ha => (hU.u a).mp (u a ha)) ((t'.trans t3 (S.outerAt o)).trans (LS.re (c' := { c with h0 := h0 }) rfl t4) (S.outerAt o))
noncomputable def ck27 : Ck := spCk fnNames twos sp_law
noncomputable def src27 : PE := .list (.cons (.var 5) (.cons (.var 6) .nil))
noncomputable def esW : PEs := .cons (.var 9) (.cons (.var 1) (.cons (.var 2) (.cons (.var 4) (.cons (.var 3) .nil))))
noncomputable def esL : PEs := .cons (.var 9) (.cons (.var 1) (.cons (.var 2) (.cons (.var 4) (.cons (.var 3) (.cons (.var 7) (.cons (.var 8) .nil))))))
noncomputable def esR1 : PEs := .cons (.cat (.list (.cons (.add (.len (.var 14)) (.int 1)) .nil)) (.var 14)) (.cons (.repl (.int 0) (.len (.var 7))) .nil)
noncomputable def esR2 : PEs := .cons (.cat (.list (.cons (.len (.var 14)) .nil)) (.var 14)) (.cons (.repl (.int 0) (.len (.var 7))) .nil)
inductive Sh27 : List Stmt → Prop
  | mk (s0 s1 s2 s3 s4 s5 s6 s7 s8 s9 s10 s11 x w1 iter c1 w2 w3 w4 c2 w5 w6 w7 w8 s13 s14 s15 s16 c3 y3 w9 w10 w11 w12 w13 c4 y4 w14 w15 w16 w17 w18 post) (h : (chkSs ck27 (fd_law.body.take 12) [s0, s1, s2, s3, s4, s5, s6, s7, s8, s9, s10, s11] && ck27.names[9]? == some x && notSet iter && chkE ck27 src27 iter && chkE ck27 (.call 23 esW) c1 && plainTest c1 && chkE ck27 (.call 24 esL) c2 && plainTest c2 && chkSs ck27 ((fd_law.body.drop 13).take 4) [s13, s14, s15, s16] && chkE ck27 (.call 26 esR1) c3 && y3 == Str.ofString "untiled" && chkE ck27 (.call 26 esR2) c4 && y4 == Str.ofString "no room" && chkSs ck27 (fd_law.body.drop 19) post) = true) : Sh27 (s0 :: s1 :: s2 :: s3 :: s4 :: s5 :: s6 :: s7 :: s8 :: s9 :: s10 :: s11 :: .For (.Name x w1) iter [.If (.UnaryOp .Not c1 w2) w3 [] w4, .If (.UnaryOp .Not c2 w5) w6 [] w7] [] w8 :: s13 :: s14 :: s15 :: s16 ::
      .If (.Compare c3 [.NotEq] [.Constant (.str y3) w9 w10] w11) w12 [] w13 :: .If (.Compare c4 [.NotEq] [.Constant (.str y4) w14 w15] w16) w17 [] w18 :: post)
theorem shape27_ok : Sh27 sp_law.body := (show sp_law.body = textAt 30 by kernel_rfl) ▸ Sh27.mk _ _ _ _ _ _ _ _ _ _ _ _ _ _ _ _ _ _ _ _ _ _ _ _ _ _ _ _ _ _ _ _ _ _ _ _ _ _ _ _ _ _ _ (by decide +kernel)
theorem ne_untiled : dCmp .ne (.str (Str.ofString "untiled")) (.str (Str.ofString "untiled")) = some false := by decide +kernel
theorem ne_noroom : dCmp .ne (.str (Str.ofString "no room")) (.str (Str.ofString "no room")) = some false := by decide +kernel
theorem two_cases (one two : PyData) : ∀ (j : Nat) (hj : j < [one, two].length), [one, two][j] = one ∨ [one, two][j] = two
  | 0, _ => .inl rfl
  | 1, _ => .inr rfl
theorem law_ret (M : ModOk m) {script one two : PyData} {σ₁ σ₃ : Store} {xr1 xr2 : List PyData} (hd1 : denSs (callD tab fuel n) fuel (fd_law.body.take 12) (startStore fd_law [script]) = some (.next σ₁))
    (hone : σ₁.get 5 = some one) (htwo : σ₁.get 6 = some two)
    (hwl : ∀ order, order = one ∨ order = two → ∃ xw xl, denEs (callD tab fuel n) esW (σ₁.set 9 (some order)) = some xw ∧ LSpec prog w m B0 n 23 xw (.ret (.bool true)) ∧ denEs (callD tab fuel n) esL (σ₁.set 9 (some order)) = some xl ∧ LSpec prog w m B0 n 24 xl (.ret (.bool true)))
    (hd3 : denSs (callD tab fuel n) fuel ((fd_law.body.drop 13).take 4) (σ₁.set 9 (some two)) = some (.next σ₃))
    (hr1 : denEs (callD tab fuel n) esR1 σ₃ = some xr1) (L1 : LSpec prog w m B0 n 26 xr1 (.ret (.str (Str.ofString "untiled")))) (hr2 : denEs (callD tab fuel n) esR2 σ₃ = some xr2) (L2 : LSpec prog w m B0 n 26 xr2 (.ret (.str (Str.ofString "no room")))) :
    LSpec prog w m B0 (n + 1) 27 [script] (.ret (.bool true)) := by
  have hΦ : CallOk prog w m (callD tab fuel n) n := M.call n
  refine LSpec.of_body M.ok M.tabOk (sp := sp_law) (by rw [M.specs]; rfl) (by rw [sp_law, specFor_fd]; rfl) (by rw [sp_law, specFor_fd]; rfl) fun c l s Q E k o S hb _ h => ?_
  rw [M.twos] at k
  have hs := shape27_ok
  generalize sp_law.body = body at hs ⊢
  cases hs with
  | mk s0 s1 s2 s3 s4 s5 s6 s7 s8 s9 s10 s11 x px iter c1 q1 b1 q2 c2 q3 b2 q4 q5 s13 s14 s15 s16 c3 y3 k3 q6 q7 b3 q8 c4 y4 k4 q9 q10 b4 q11 post hs =>
  simp only [Bool.and_eq_true, beq_iff_eq] at hs
  obtain ⟨⟨⟨⟨⟨⟨⟨⟨⟨⟨⟨⟨⟨h1, h2⟩, h3⟩, h4⟩, h5⟩, h6⟩, h7⟩, h8⟩, h9⟩, h10⟩, rfl⟩, h12⟩, rfl⟩, h14⟩ := hs
  · have hst : startStore sp_law.fd [script] = startStore fd_law [script] := by rw [sp_law, specFor_fd]
    rw [hst] at S
    refine l_seg M.ok hΦ k o (fd_law.body.take 12) [s0, s1, s2, s3, s4, s5, s6, s7, s8, s9, s10, s11] _ _ s rfl h1 hd1 S fun s' W' S' t' hg' => ?_
    have hb' : AllBare s'.gens := hg' ▸ hb
    have hown : c.own = [] := by rw [k.own]; show sp_law.fd.own = []; rw [sp_law, specFor_fd]; rfl
    have hy : denE (callD tab fuel n) src27 σ₁ = some (.list [one, two]) := by simp [src27, q_var, q_list, dEs_nil, dEs_cons, hone, htwo]
    have hit : itemsOf false (.list [one, two]) = some [one, two] := by simp [o_xL, lim]
    refine wpAny_execs_cons (lfor (Φ := callD tab fuel n) (i := 9) (src := src27) (items := [one, two]) k o S' hb' (by rw [k.names]; exact h2) (by rw [hown]; exact fun q => (nomatch q)) (by rw [hown]; rfl) (set_of h3) (fun W => .list (soundE M.ok hΦ _ _ _ (c.ce W) (k.ce W) h4)) hy hit ?_ ?_)
    · intro j hj h0 s2 k2 o2 S2 hU2 hb2 Q' E' hQ'
      obtain ⟨xw, xl, e1, Lw, e2, Ll⟩ := hwl _ (two_cases one two j hj)
      refine wpAny_execs_cons (lif_not (c := { c with h0 := h0 }) M.ok hΦ k2 o2 S2 hb2 h5 h6 e1 Lw fun s3 h3 k3 o3 S3 hU3 t3 => ?_)
      refine wpAny_execs_cons (lif_not (c := { c with h0 := h3 }) M.ok hΦ k3 o3 S3 (t3.bare hb2) h7 h8 e2 Ll fun s4 h4 k4 o4 S4 hU4 t4 => ?_)
      refine wpAny_execs_nil (hQ' s4 h4 k4 o4 S4 (fun a => (hU4 a).trans ((hU3 a).trans (hU2 a))) ?_)
      exact (LS.re (c := c) (c' := { c with h0 := h0 }) rfl t3).trans (LS.re (c := c) (c' := { c with h0 := h3 }) rfl t4) (S2.outerAt o2)
    · intro s3 h0 k3 o3 S3 hU3 t3
      have e3 : turnSt σ₁ 9 [one, two] [one, two].length = σ₁.set 9 (some two) := rfl
      rw [e3] at S3
      have T3 := t'.trans t3 (S.outerAt o)
      refine l_seg (c := { c with h0 := h0 }) M.ok hΦ k3 o3 ((fd_law.body.drop 13).take 4) [s13, s14, s15, s16] _ _ s3 rfl h9 hd3 S3 fun s4 W4 S4 t4 hg4 => ?_
      have T4 := T3.trans (LS.re (c' := { c with h0 := h0 }) rfl t4) (S.outerAt o)
      have hb4 : AllBare s4.gens := T4.bare hb
      refine wpAny_execs_cons (lif_ne (c := { c with h0 := h0 }) M.ok hΦ k3 o3 S4 hb4 h10 hr1 L1 ne_untiled fun s5 h5 k5 o5 S5 hU5 t5 => ?_)
      have T5 := T4.trans (LS.re (c' := { c with h0 := h0 }) rfl t5) (S.outerAt o)
      refine wpAny_execs_cons (lif_ne (c := { c with h0 := h5 }) M.ok hΦ k5 o5 S5 (T5.bare hb) h12 hr2 L2 ne_noroom fun s6 h6 k6 o6 S6 hU6 t6 => ?_)
      have T6 := T5.trans (LS.re (c' := { c with h0 := h5 }) rfl t6) (S.outerAt o)
      refine l_end (c := { c with h0 := h6 }) M.ok hΦ k6 o6 (fuel := fuel) h14 (d := .bool true) rfl S6 fun v s7 W7 fp r u t7 _ => ?_
      have hU : SameDom c h6 := fun a => (hU6 a).trans ((hU5 a).trans (hU3 a))
      exact h v s7 W7 fp r (fun a ha => (hU.u a).mp (u a ha)) (T6.trans (LS.re (c' := { c with h0 := h6 }) rfl t7) (S.outerAt o))
end
end Mine

namespace Mine
open PySem PySem.W PyProof.Rows
set_option autoImplicit false
set_option maxRecDepth 100000
set_option maxHeartbeats 8000000
noncomputable def keepS (s : Stmt) : Bool := !(Nat.beq s.ctorIdx 5)
noncomputable def V : Program := { Challenge.pw_sx_zcinder_5 with main := { Challenge.pw_sx_zcinder_5.main with body := Challenge.pw_sx_zcinder_5.main.body.filter keepS } }
theorem recs_len : (recsOf V).length = 28 := by decide +kernel
noncomputable def dr (k : Nat) (h : k < 28) : DefRec := (recsOf V)[k]'(by rw [recs_len]; exact h)
theorem dr_mem (k : Nat) (h : k < 28) : dr k h ∈ recsOf V := List.getElem_mem _
noncomputable abbrev PW : Program := Challenge.pw_sx_zcinder_5
noncomputable def ent (P : Params) (x : String) (k : Nat) (v : Value) : DictEntry := { hash := PyData.keyHash P (Str.ofString x), key := .str (Str.ofString x) k, val := v }
noncomputable def sv (x : String) (k : Nat) : Value := .str (Str.ofString x) k
noncomputable def codeO (f : String) (a b c l g h k e : Nat) : Obj := { cls := .type "code", data := .fields #[sv f a, sv f b, sv "/claim/cut.py" c, .int l 0, .int 0 0, .int 0 0, .int 0 0, .int 0 0, .ref g, .bool false, .int 181 0, .ref h, .none, .none, .none, .none, .int k 0, .int l 0, sv "/claim/cut.py" e] }
noncomputable def tupO : Obj := { cls := .type "tuple", data := .seq #[] }
noncomputable def frO (a b : Nat) (v : Value) : Obj := { cls := .type "frame", slots := #[some (.ref a), some (.ref 3), some (.ref b), none, some v, none, some (.ref 0)] }
noncomputable def Ha (P : Params) : Heap := ⟨⟨(boot_heap P).objs.toList ++ [tupO, { cls := .none, data := .fields #[] }, codeO "<module>" 182 183 184 1 11 12 185 186, frO 13 3 (sv "__main__" 164)]⟩, (boot_heap P).life⟩
noncomputable def Hb (P : Params) : Heap := ⟨⟨[boot_o_0 P, boot_o_1 P,
  { cls := .none, data := .dict #[ent P "type.__subclasses__.Exception.0" 205 (.int 24 0), ent P "type.__subclasses__.Exception.n" 206 (.int 1 0)] 2 },
  { cls := .type "dict", data := .dict #[ent P "__name__" 165 (sv "cinder.core" 187), ent P "__doc__" 166 .none, ent P "__package__" 167 .none, ent P "__loader__" 168 (.builtin "__main__.__loader__#opaque"), ent P "__spec__" 169 .none, ent P "__annotations__" 170 (.ref 6), ent P "__builtins__" 171 (.ref 4), ent P "__file__" 173 (sv "/claim/cut.py" 172), ent P "__cached__" 174 .none, ent P "OutOfMemory" 208 (.ref 24)] 10 },
  boot_o_4 P, boot_o_5 P, boot_o_6 P, boot_o_7 P, boot_o_8 P, boot_o_9 P, boot_o_10 P, tupO, { cls := .none, data := .fields #[.int 2 0, .int 0 0, .ref 20] }, codeO "<module>" 182 183 184 1 11 12 185 186, frO 13 3 (sv "__main__" 164),
  { cls := .type "tuple", data := .seq #[.type "Exception"] }, { cls := .type "builtin_function_or_method", data := .fields #[.builtin "type.__prepare__", .type "type"] },
  { cls := .type "dict", data := .dict #[ent P "__module__" 196 (sv "cinder.core" 187), ent P "__qualname__" 198 (sv "OutOfMemory" 197), ent P "__firstlineno__" 200 (.int 2 199), ent P "__static_attributes__" 201 (.ref 22)] 4 },
  tupO, { cls := .none, data := .fields #[] }, codeO "OutOfMemory" 191 192 193 2 18 19 194 195, frO 20 17 (sv "cinder.core" 187), tupO,
  { cls := .type "dict", data := .dict #[ent P "__module__" 196 (sv "cinder.core" 187), ent P "__firstlineno__" 200 (.int 2 199), ent P "__static_attributes__" 201 (.ref 22), ent P "__weakref__" 203 (.ref 25), ent P "__doc__" 204 .none] 3 },
  { cls := .type "type", data := .cls { name := Str.ofString "OutOfMemory", bases := [.type "Exception"], mro := [.ref 24, .type "Exception", .type "BaseException", .type "object"], ns := 23, qualname := Str.ofString "OutOfMemory" }, slots := #[some (.ref 15), none, some (sv "OutOfMemory" 189), some (sv "OutOfMemory" 197), some (.builtin "Exception.__new__"), some (.bool true)] },
  { cls := .type "getset_descriptor", data := .fields #[sv "__weakref__" 202, .ref 24, .builtin "ExceptionGroup.__weakref__", .none] }, { cls := .type "super", data := .fields #[.ref 24, .ref 24, .ref 24] }, { cls := .type "builtin_function_or_method", data := .fields #[.builtin "object.__init_subclass__", .ref 24] }]⟩, (boot_heap P).life⟩
noncomputable def enV : Env := { scope := PW.main.scope, locals := mainNs, globals := mainNs, cells := [], code := .ref 13, frame := some 14 }
noncomputable def bodyV : List Stmt := behindTheImports PW
noncomputable def posB : Pos := ⟨2, 0, 3, 8⟩
theorem opened : ∀ w : World, (fencedOpening treeTable PW w 2318).map (fun s => (s.heap, s.gens, s.drawn, s.toks)) = some (boot_heap w.params, Array.mk [], boot_drawn, boot_toks) := boot_open (by kernel_rfl) rfl (fun s => by kernel_rfl)
theorem sized (w : World) : ((boot_heap w.params).isNs mainGlobals && (#[] : Array GenState).size == 0, (boot_heap w.params).objs.size, (boot_heap w.params).nsMap mainGlobals "__annotations__") = (true, 11, some (.ref 6)) := by kernel_rfl
theorem goPre (w : World) (os : OsState) : topGo treeTable PW w 11 (some (.ref 6)) 12 ⟨boot_heap w.params, #[], boot_drawn, boot_toks, os⟩ (topStub PW) = some (⟨Ha w.params, #[], boot_drawn, 187, os⟩, ⟨denote treeTable (.body bodyV enV), .body bodyV enV, default, [topFrame default]⟩) := by kernel_rfl
theorem goBlock (w : World) (os : OsState) : segRun treeTable PW w 11 (some (.ref 6)) 1 1 ⟨Ha w.params, #[], boot_drawn, 187, os⟩ (blockOf bodyV enV (.body bodyV enV) default [topFrame default]) = some (.next, ⟨Ha w.params, #[], boot_drawn, 187, os⟩, .body bodyV enV, default) := by kernel_rfl
theorem goClass (w : World) (os : OsState) : segRun treeTable PW w 11 (some (.ref 6)) 1 300 ⟨Ha w.params, #[], boot_drawn, 187, os⟩ (piecesOf (bodyV.take 2) enV (.body bodyV enV) default [topFrame default]) = some (.next, ⟨Hb w.params, #[], boot_drawn, 209, os⟩, .body bodyV enV, posB) := by kernel_rfl
theorem goRest (w : World) (os : OsState) : (topRun treeTable PW w 11 (some (.ref 6)) 1500 ⟨Hb w.params, #[], boot_drawn, 209, os⟩ (restOf (bodyV.drop 2) enV (.body bodyV enV) posB [topFrame default])).map (fun s => (staticsOk (importedModules PW.main.body) (boot_heap w.params) s.heap && namesBound PW s.heap && gensDone s && laidKept (boot_heap w.params) s.heap, openSeen V [] (importedModules PW.main.body) (fun s => xlAt V [] s && recOk (RowW.records Challenge.rw_sx_zcinder_5.row.toRowW) s) true s, Hook.obs Hook.none s)) = some (true, openGood V [], Hook.val Hook.none w) := by kernel_rfl
theorem left_of {p q : Program} {loose : List Str} {Xt : Shared → Bool} {α : Type} {Yf : Shared → α} {Ya : World → α} {N M m₀ : Nat} {g0 : Bool} {ann : Option Value} {H₀ : Params → Heap} {gs₀ : Array GenState} {d₀ : Drawn} {k₀ : Nat}
    (op : ∀ w : World, (fencedOpening treeTable p w N).map (fun s => (s.heap, s.gens, s.drawn, s.toks)) = some (H₀ w.params, gs₀, d₀, k₀))
    (size : ∀ w : World, ((H₀ w.params).isNs mainGlobals && gs₀.size == 0, (H₀ w.params).objs.size, (H₀ w.params).nsMap mainGlobals "__annotations__") = (true, m₀, ann))
    (run : ∀ (w : World) (os : OsState), ∃ s₁, topRun treeTable p w m₀ ann M ⟨H₀ w.params, gs₀, d₀, k₀, os⟩ (topStub p) = some s₁ ∧
      (staticsOk (importedModules p.main.body) (H₀ w.params) s₁.heap && namesBound p s₁.heap && gensDone s₁ && laidKept (H₀ w.params) s₁.heap, openSeen q loose (importedModules p.main.body) Xt g0 s₁, Yf s₁) = (true, openGood q loose, Ya w))
    (le : M ≤ N) : LeftO p q loose Xt Yf Ya N g0 := fun w => by
  obtain ⟨⟨h, gs, d, k, os⟩, e, e'⟩ := Option.map_eq_some_iff.mp (op w)
  obtain ⟨rfl, rfl, rfl, rfl⟩ : h = H₀ w.params ∧ gs = gs₀ ∧ d = d₀ ∧ k = k₀ := by simpa using e'
  obtain ⟨z1, z2, z3⟩ : _ ∧ _ ∧ _ := by simpa only [Prod.mk.injEq] using size w
  obtain ⟨s₁, r, l⟩ := run w os
  obtain ⟨l1, l2, l3⟩ : _ ∧ _ ∧ _ := by simpa only [Prod.mk.injEq] using l
  have r := topRun_mono (N - M) _ _ _ _ r
  rw [Nat.add_sub_cancel' le] at r
  have t : topFrom treeTable p w N ⟨H₀ w.params, gs, d, k, os⟩ = some s₁ := by
    unfold topFrom
    dsimp only
    rw [z1, z2, z3, r]
    dsimp only [Option.bind_some]
    rw [l1]
  unfold openEnds
  rw [e]
  show (topFrom treeTable p w N _).map _ = _
  rw [t]
  exact congrArg some (Prod.ext l2 l3)
theorem leftT : LeftO Challenge.pw_sx_zcinder_5 V [] (fun s => xlAt V [] s && recOk (RowW.records Challenge.rw_sx_zcinder_5.row.toRowW) s) (Hook.obs Hook.none) (Hook.val Hook.none) 2318 :=
  left_of opened sized (fun w os => by
    obtain ⟨s₁, hr, hl⟩ := Option.map_eq_some_iff.mp (goRest w os)
    have r := piece_app (goClass w os) hr
    rw [List.take_append_drop 2 bodyV] at r
    exact ⟨s₁, go_top (goPre w os) (piece_block (goBlock w os) r), hl⟩) (by decide)
theorem nrP : namesResolve Challenge.rw_sx_zcinder_5.row.prog = true := by kernel_rfl
theorem nmP : namesMeet Challenge.rw_sx_zcinder_5.row.prog Challenge.rw_sx_zcinder_5.row.prog.main.body (fun _ n => attrL n) = true := by kernel_rfl
theorem looksP : looksOpen Challenge.rw_sx_zcinder_5.row.prog = true := by
  unfold looksOpen
  rw [nrP, nmP]
  kernel_rfl
theorem partP : OpenRow.partSaid Challenge.rw_sx_zcinder_5.row = true := by
  unfold OpenRow.partSaid
  rw [looksP]
  kernel_rfl
theorem rowP : OpenRow.wellSaid Challenge.rw_sx_zcinder_5.row = true := by
  unfold OpenRow.wellSaid
  rw [partP]
  kernel_rfl
theorem niP : Challenge.rw_sx_zcinder_5.namesIt = true := by kernel_rfl
theorem ncP : noClassBlock Challenge.rw_sx_zcinder_5.prog Challenge.rw_sx_zcinder_5.footing = true := by kernel_rfl
theorem naP : namesMeet Challenge.rw_sx_zcinder_5.prog Challenge.rw_sx_zcinder_5.above (fun _ n => !Challenge.rw_sx_zcinder_5.own.contains n) = true := by kernel_rfl
theorem lawSaid : OpenLaw.wellSaid Challenge.rw_sx_zcinder_5 = true := by
  unfold OpenLaw.wellSaid
  rw [rowP, niP, ncP, naP]
  kernel_rfl
theorem defLaw : defOf V Challenge.rw_sx_zcinder_5.row.name = some (dr 27 (by decide), []) := by kernel_rfl
theorem defIs : Challenge.rw_sx_zcinder_5.row.prog.theDef Challenge.rw_sx_zcinder_5.row.name = some ((dr 27 (by decide)).params, (dr 27 (by decide)).body, (dr 27 (by decide)).scope) := by kernel_rfl
theorem kwIs : kwWritten? (dr 27 (by decide)).params.kwonlyargs (dr 27 (by decide)).params.kw_defaults = some [] := by kernel_rfl
theorem looksIs : (chainsOk V && opensWell Challenge.rw_sx_zcinder_5.row.prog && (frees Challenge.rw_sx_zcinder_5.row.toRowW && Challenge.rw_sx_zcinder_5.row.within.isEmpty)) = true := by kernel_rfl
theorem bareIs : Challenge.rw_sx_zcinder_5.row.prog.bare := ⟨rfl, rfl, rfl, rfl, rfl, by decide +kernel⟩
theorem hd (call : WalkO V [] (XL V []) (Hook.says Hook.none) Challenge.rw_sx_zcinder_5.row.toRowW (dr 27 (by decide)) [] fun f vs => PySem.call f vs) : Challenge.rw_sx_zcinder_5.Holds :=
  holds_law lawSaid fun said => by
    refine holds_open (q := V) (loose := []) (Xt := fun s => xlAt V [] s && recOk (RowW.records Challenge.rw_sx_zcinder_5.row.toRowW) s) (XP := XL V []) (Yf := Hook.obs Hook.none) (Ya := Hook.val Hook.none) (YP := Hook.says Hook.none) (N := 2318)
      leftT (Hook.of Hook.none) (Hook.keeps Hook.none) (fun s e => xl_of s (Bool.and_eq_true_iff.mp e).1) XL.keeps defLaw defIs kwIs (fun s e => recFacts_of (Bool.and_eq_true_iff.mp e).2) (by rfl) said looksIs bareIs ?hw call
    case hw => w_witness2
end Mine

namespace Mine
open PySem PySem.W PySem.Calls PyProof.Rows
set_option autoImplicit false
set_option maxRecDepth 100000
structure RecOk (p : Program) (x : Str) (sp : FnSpec) : Prop where
  ex : ∃ d, d ∈ recsOf p ∧ d.name = x ∧ d.body = sp.body ∧ d.scope = sp.scope ∧ ∀ (pm code doc : Value) (vs : List Value), vs.length = sp.fd.np → bindArgs (docDef d.name d.params d.body d.scope pm code doc) ⟨vs, []⟩ = pure ((sp.names.take sp.fd.np).zip vs)
theorem len_succ {n : Nat} {vs : List Value} (h : vs.length = n + 1) : ∃ v us, vs = v :: us ∧ us.length = n := by
  cases vs with
  | nil => cases h
  | cons v us => exact ⟨v, us, rfl, Nat.succ.inj h⟩
theorem len0 {vs : List Value} (h : vs.length = 0) : vs = [] := List.length_eq_zero_iff.mp h
theorem len1 {vs : List Value} (h : vs.length = 1) : ∃ v0, vs = [v0] := by
  obtain ⟨v0, us, rfl, h'⟩ := len_succ h
  rw [len0 h']; exact ⟨v0, rfl⟩
theorem len2 {vs : List Value} (h : vs.length = 2) : ∃ v0 v1, vs = [v0, v1] := by
  obtain ⟨v0, us, rfl, h'⟩ := len_succ h
  obtain ⟨v1, rfl⟩ := len1 h'
  exact ⟨v0, v1, rfl⟩
theorem len3 {vs : List Value} (h : vs.length = 3) : ∃ v0 v1 v2, vs = [v0, v1, v2] := by
  obtain ⟨v0, us, rfl, h'⟩ := len_succ h
  obtain ⟨v1, v2, rfl⟩ := len2 h'
  exact ⟨v0, v1, v2, rfl⟩
theorem len4 {vs : List Value} (h : vs.length = 4) : ∃ v0 v1 v2 v3, vs = [v0, v1, v2, v3] := by
  obtain ⟨v0, us, rfl, h'⟩ := len_succ h
  obtain ⟨v1, v2, v3, rfl⟩ := len3 h'
  exact ⟨v0, v1, v2, v3, rfl⟩
theorem len5 {vs : List Value} (h : vs.length = 5) : ∃ v0 v1 v2 v3 v4, vs = [v0, v1, v2, v3, v4] := by
  obtain ⟨v0, us, rfl, h'⟩ := len_succ h
  obtain ⟨v1, v2, v3, v4, rfl⟩ := len4 h'
  exact ⟨v0, v1, v2, v3, v4, rfl⟩
theorem len6 {vs : List Value} (h : vs.length = 6) : ∃ v0 v1 v2 v3 v4 v5, vs = [v0, v1, v2, v3, v4, v5] := by
  obtain ⟨v0, us, rfl, h'⟩ := len_succ h
  obtain ⟨v1, v2, v3, v4, v5, rfl⟩ := len5 h'
  exact ⟨v0, v1, v2, v3, v4, v5, rfl⟩
theorem len7 {vs : List Value} (h : vs.length = 7) : ∃ v0 v1 v2 v3 v4 v5 v6, vs = [v0, v1, v2, v3, v4, v5, v6] := by
  obtain ⟨v0, us, rfl, h'⟩ := len_succ h
  obtain ⟨v1, v2, v3, v4, v5, v6, rfl⟩ := len6 h'
  exact ⟨v0, v1, v2, v3, v4, v5, v6, rfl⟩
theorem len8 {vs : List Value} (h : vs.length = 8) : ∃ v0 v1 v2 v3 v4 v5 v6 v7, vs = [v0, v1, v2, v3, v4, v5, v6, v7] := by
  obtain ⟨v0, us, rfl, h'⟩ := len_succ h
  obtain ⟨v1, v2, v3, v4, v5, v6, v7, rfl⟩ := len7 h'
  exact ⟨v0, v1, v2, v3, v4, v5, v6, v7, rfl⟩
theorem rec_is_pointer : RecOk V (Str.ofString "is_pointer") sp_is_pointer := by
  refine ⟨⟨dr 0 (by decide), dr_mem 0 (by decide), by kernel_rfl, by kernel_rfl, by kernel_rfl, ?_⟩⟩
  have b : ∀ (pm code doc v0 : Value), bindArgs (docDef (dr 0 (by decide)).name (dr 0 (by decide)).params (dr 0 (by decide)).body (dr 0 (by decide)).scope pm code doc) ⟨[v0], []⟩ = pure ((ns_is_pointer.take 1).zip [v0]) := by intro pm code doc v0; kernel_rfl
  intro pm code doc vs hv
  have e1 : sp_is_pointer.names = ns_is_pointer := by rw [sp_is_pointer, specFor_names]
  have e2 : sp_is_pointer.fd.np = 1 := by rw [sp_is_pointer, specFor_fd]; rfl
  rw [e1, e2]; rw [e2] at hv
  obtain ⟨v0, rfl⟩ := len1 hv
  exact b pm code doc v0
theorem rec_pointer_to : RecOk V (Str.ofString "pointer_to") sp_pointer_to := by
  refine ⟨⟨dr 1 (by decide), dr_mem 1 (by decide), by kernel_rfl, by kernel_rfl, by kernel_rfl, ?_⟩⟩
  have b : ∀ (pm code doc v0 : Value), bindArgs (docDef (dr 1 (by decide)).name (dr 1 (by decide)).params (dr 1 (by decide)).body (dr 1 (by decide)).scope pm code doc) ⟨[v0], []⟩ = pure ((ns_pointer_to.take 1).zip [v0]) := by intro pm code doc v0; kernel_rfl
  intro pm code doc vs hv
  have e1 : sp_pointer_to.names = ns_pointer_to := by rw [sp_pointer_to, specFor_names]
  have e2 : sp_pointer_to.fd.np = 1 := by rw [sp_pointer_to, specFor_fd]; rfl
  rw [e1, e2]; rw [e2] at hv
  obtain ⟨v0, rfl⟩ := len1 hv
  exact b pm code doc v0
theorem rec_address_of : RecOk V (Str.ofString "address_of") sp_address_of := by
  refine ⟨⟨dr 2 (by decide), dr_mem 2 (by decide), by kernel_rfl, by kernel_rfl, by kernel_rfl, ?_⟩⟩
  have b : ∀ (pm code doc v0 : Value), bindArgs (docDef (dr 2 (by decide)).name (dr 2 (by decide)).params (dr 2 (by decide)).body (dr 2 (by decide)).scope pm code doc) ⟨[v0], []⟩ = pure ((ns_address_of.take 1).zip [v0]) := by intro pm code doc v0; kernel_rfl
  intro pm code doc vs hv
  have e1 : sp_address_of.names = ns_address_of := by rw [sp_address_of, specFor_names]
  have e2 : sp_address_of.fd.np = 1 := by rw [sp_address_of, specFor_fd]; rfl
  rw [e1, e2]; rw [e2] at hv
  obtain ⟨v0, rfl⟩ := len1 hv
  exact b pm code doc v0
theorem rec_blocks_of : RecOk V (Str.ofString "blocks_of") sp_blocks_of := by
  refine ⟨⟨dr 3 (by decide), dr_mem 3 (by decide), by kernel_rfl, by kernel_rfl, by kernel_rfl, ?_⟩⟩
  have b : ∀ (pm code doc v0 : Value), bindArgs (docDef (dr 3 (by decide)).name (dr 3 (by decide)).params (dr 3 (by decide)).body (dr 3 (by decide)).scope pm code doc) ⟨[v0], []⟩ = pure ((ns_blocks_of.take 1).zip [v0]) := by intro pm code doc v0; kernel_rfl
  intro pm code doc vs hv
  have e1 : sp_blocks_of.names = ns_blocks_of := by rw [sp_blocks_of, specFor_names]
  have e2 : sp_blocks_of.fd.np = 1 := by rw [sp_blocks_of, specFor_fd]; rfl
  rw [e1, e2]; rw [e2] at hv
  obtain ⟨v0, rfl⟩ := len1 hv
  exact b pm code doc v0
theorem rec_free_words : RecOk V (Str.ofString "free_words") sp_free_words := by
  refine ⟨⟨dr 4 (by decide), dr_mem 4 (by decide), by kernel_rfl, by kernel_rfl, by kernel_rfl, ?_⟩⟩
  have b : ∀ (pm code doc v0 : Value), bindArgs (docDef (dr 4 (by decide)).name (dr 4 (by decide)).params (dr 4 (by decide)).body (dr 4 (by decide)).scope pm code doc) ⟨[v0], []⟩ = pure ((ns_free_words.take 1).zip [v0]) := by intro pm code doc v0; kernel_rfl
  intro pm code doc vs hv
  have e1 : sp_free_words.names = ns_free_words := by rw [sp_free_words, specFor_names]
  have e2 : sp_free_words.fd.np = 1 := by rw [sp_free_words, specFor_fd]; rfl
  rw [e1, e2]; rw [e2] at hv
  obtain ⟨v0, rfl⟩ := len1 hv
  exact b pm code doc v0
theorem rec_allocate : RecOk V (Str.ofString "allocate") sp_allocate := by
  refine ⟨⟨dr 5 (by decide), dr_mem 5 (by decide), by kernel_rfl, by kernel_rfl, by kernel_rfl, ?_⟩⟩
  have b : ∀ (pm code doc v0 v1 : Value), bindArgs (docDef (dr 5 (by decide)).name (dr 5 (by decide)).params (dr 5 (by decide)).body (dr 5 (by decide)).scope pm code doc) ⟨[v0, v1], []⟩ = pure ((ns_allocate.take 2).zip [v0, v1]) := by intro pm code doc v0 v1; kernel_rfl
  intro pm code doc vs hv
  have e1 : sp_allocate.names = ns_allocate := by rw [sp_allocate, specFor_names]
  have e2 : sp_allocate.fd.np = 2 := by rw [sp_allocate, specFor_fd]; rfl
  rw [e1, e2]; rw [e2] at hv
  obtain ⟨v0, v1, rfl⟩ := len2 hv
  exact b pm code doc v0 v1
theorem rec_fields_of : RecOk V (Str.ofString "fields_of") sp_fields_of := by
  refine ⟨⟨dr 6 (by decide), dr_mem 6 (by decide), by kernel_rfl, by kernel_rfl, by kernel_rfl, ?_⟩⟩
  have b : ∀ (pm code doc v0 v1 : Value), bindArgs (docDef (dr 6 (by decide)).name (dr 6 (by decide)).params (dr 6 (by decide)).body (dr 6 (by decide)).scope pm code doc) ⟨[v0, v1], []⟩ = pure ((ns_fields_of.take 2).zip [v0, v1]) := by intro pm code doc v0 v1; kernel_rfl
  intro pm code doc vs hv
  have e1 : sp_fields_of.names = ns_fields_of := by rw [sp_fields_of, specFor_names]
  have e2 : sp_fields_of.fd.np = 2 := by rw [sp_fields_of, specFor_fd]; rfl
  rw [e1, e2]; rw [e2] at hv
  obtain ⟨v0, v1, rfl⟩ := len2 hv
  exact b pm code doc v0 v1
theorem rec_with_field : RecOk V (Str.ofString "with_field") sp_with_field := by
  refine ⟨⟨dr 7 (by decide), dr_mem 7 (by decide), by kernel_rfl, by kernel_rfl, by kernel_rfl, ?_⟩⟩
  have b : ∀ (pm code doc v0 v1 v2 v3 : Value), bindArgs (docDef (dr 7 (by decide)).name (dr 7 (by decide)).params (dr 7 (by decide)).body (dr 7 (by decide)).scope pm code doc) ⟨[v0, v1, v2, v3], []⟩ = pure ((ns_with_field.take 4).zip [v0, v1, v2, v3]) := by intro pm code doc v0 v1 v2 v3; kernel_rfl
  intro pm code doc vs hv
  have e1 : sp_with_field.names = ns_with_field := by rw [sp_with_field, specFor_names]
  have e2 : sp_with_field.fd.np = 4 := by rw [sp_with_field, specFor_fd]; rfl
  rw [e1, e2]; rw [e2] at hv
  obtain ⟨v0, v1, v2, v3, rfl⟩ := len4 hv
  exact b pm code doc v0 v1 v2 v3
theorem rec_reachable : RecOk V (Str.ofString "reachable") sp_reachable := by
  refine ⟨⟨dr 8 (by decide), dr_mem 8 (by decide), by kernel_rfl, by kernel_rfl, by kernel_rfl, ?_⟩⟩
  have b : ∀ (pm code doc v0 v1 : Value), bindArgs (docDef (dr 8 (by decide)).name (dr 8 (by decide)).params (dr 8 (by decide)).body (dr 8 (by decide)).scope pm code doc) ⟨[v0, v1], []⟩ = pure ((ns_reachable.take 2).zip [v0, v1]) := by intro pm code doc v0 v1; kernel_rfl
  intro pm code doc vs hv
  have e1 : sp_reachable.names = ns_reachable := by rw [sp_reachable, specFor_names]
  have e2 : sp_reachable.fd.np = 2 := by rw [sp_reachable, specFor_fd]; rfl
  rw [e1, e2]; rw [e2] at hv
  obtain ⟨v0, v1, rfl⟩ := len2 hv
  exact b pm code doc v0 v1
theorem rec_live_words : RecOk V (Str.ofString "live_words") sp_live_words := by
  refine ⟨⟨dr 9 (by decide), dr_mem 9 (by decide), by kernel_rfl, by kernel_rfl, by kernel_rfl, ?_⟩⟩
  have b : ∀ (pm code doc v0 v1 : Value), bindArgs (docDef (dr 9 (by decide)).name (dr 9 (by decide)).params (dr 9 (by decide)).body (dr 9 (by decide)).scope pm code doc) ⟨[v0, v1], []⟩ = pure ((ns_live_words.take 2).zip [v0, v1]) := by intro pm code doc v0 v1; kernel_rfl
  intro pm code doc vs hv
  have e1 : sp_live_words.names = ns_live_words := by rw [sp_live_words, specFor_names]
  have e2 : sp_live_words.fd.np = 2 := by rw [sp_live_words, specFor_fd]; rfl
  rw [e1, e2]; rw [e2] at hv
  obtain ⟨v0, v1, rfl⟩ := len2 hv
  exact b pm code doc v0 v1
theorem rec_swept : RecOk V (Str.ofString "swept") sp_swept := by
  refine ⟨⟨dr 10 (by decide), dr_mem 10 (by decide), by kernel_rfl, by kernel_rfl, by kernel_rfl, ?_⟩⟩
  have b : ∀ (pm code doc v0 v1 : Value), bindArgs (docDef (dr 10 (by decide)).name (dr 10 (by decide)).params (dr 10 (by decide)).body (dr 10 (by decide)).scope pm code doc) ⟨[v0, v1], []⟩ = pure ((ns_swept.take 2).zip [v0, v1]) := by intro pm code doc v0 v1; kernel_rfl
  intro pm code doc vs hv
  have e1 : sp_swept.names = ns_swept := by rw [sp_swept, specFor_names]
  have e2 : sp_swept.fd.np = 2 := by rw [sp_swept, specFor_fd]; rfl
  rw [e1, e2]; rw [e2] at hv
  obtain ⟨v0, v1, rfl⟩ := len2 hv
  exact b pm code doc v0 v1
theorem rec_collected_by_sweeping : RecOk V (Str.ofString "collected_by_sweeping") sp_collected_by_sweeping := by
  refine ⟨⟨dr 11 (by decide), dr_mem 11 (by decide), by kernel_rfl, by kernel_rfl, by kernel_rfl, ?_⟩⟩
  have b : ∀ (pm code doc v0 v1 : Value), bindArgs (docDef (dr 11 (by decide)).name (dr 11 (by decide)).params (dr 11 (by decide)).body (dr 11 (by decide)).scope pm code doc) ⟨[v0, v1], []⟩ = pure ((ns_collected_by_sweeping.take 2).zip [v0, v1]) := by intro pm code doc v0 v1; kernel_rfl
  intro pm code doc vs hv
  have e1 : sp_collected_by_sweeping.names = ns_collected_by_sweeping := by rw [sp_collected_by_sweeping, specFor_names]
  have e2 : sp_collected_by_sweeping.fd.np = 2 := by rw [sp_collected_by_sweeping, specFor_fd]; rfl
  rw [e1, e2]; rw [e2] at hv
  obtain ⟨v0, v1, rfl⟩ := len2 hv
  exact b pm code doc v0 v1
theorem rec_forwarded : RecOk V (Str.ofString "forwarded") sp_forwarded := by
  refine ⟨⟨dr 12 (by decide), dr_mem 12 (by decide), by kernel_rfl, by kernel_rfl, by kernel_rfl, ?_⟩⟩
  have b : ∀ (pm code doc v0 v1 v2 v3 v4 : Value), bindArgs (docDef (dr 12 (by decide)).name (dr 12 (by decide)).params (dr 12 (by decide)).body (dr 12 (by decide)).scope pm code doc) ⟨[v0, v1, v2, v3, v4], []⟩ = pure ((ns_forwarded.take 5).zip [v0, v1, v2, v3, v4]) := by intro pm code doc v0 v1 v2 v3 v4; kernel_rfl
  intro pm code doc vs hv
  have e1 : sp_forwarded.names = ns_forwarded := by rw [sp_forwarded, specFor_names]
  have e2 : sp_forwarded.fd.np = 5 := by rw [sp_forwarded, specFor_fd]; rfl
  rw [e1, e2]; rw [e2] at hv
  obtain ⟨v0, v1, v2, v3, v4, rfl⟩ := len5 hv
  exact b pm code doc v0 v1 v2 v3 v4
theorem rec_collected_by_copying : RecOk V (Str.ofString "collected_by_copying") sp_collected_by_copying := by
  refine ⟨⟨dr 13 (by decide), dr_mem 13 (by decide), by kernel_rfl, by kernel_rfl, by kernel_rfl, ?_⟩⟩
  have b : ∀ (pm code doc v0 v1 : Value), bindArgs (docDef (dr 13 (by decide)).name (dr 13 (by decide)).params (dr 13 (by decide)).body (dr 13 (by decide)).scope pm code doc) ⟨[v0, v1], []⟩ = pure ((ns_collected_by_copying.take 2).zip [v0, v1]) := by intro pm code doc v0 v1; kernel_rfl
  intro pm code doc vs hv
  have e1 : sp_collected_by_copying.names = ns_collected_by_copying := by rw [sp_collected_by_copying, specFor_names]
  have e2 : sp_collected_by_copying.fd.np = 2 := by rw [sp_collected_by_copying, specFor_fd]; rfl
  rw [e1, e2]; rw [e2] at hv
  obtain ⟨v0, v1, rfl⟩ := len2 hv
  exact b pm code doc v0 v1
theorem rec_shape_of : RecOk V (Str.ofString "shape_of") sp_shape_of := by
  refine ⟨⟨dr 14 (by decide), dr_mem 14 (by decide), by kernel_rfl, by kernel_rfl, by kernel_rfl, ?_⟩⟩
  have b : ∀ (pm code doc v0 v1 : Value), bindArgs (docDef (dr 14 (by decide)).name (dr 14 (by decide)).params (dr 14 (by decide)).body (dr 14 (by decide)).scope pm code doc) ⟨[v0, v1], []⟩ = pure ((ns_shape_of.take 2).zip [v0, v1]) := by intro pm code doc v0 v1; kernel_rfl
  intro pm code doc vs hv
  have e1 : sp_shape_of.names = ns_shape_of := by rw [sp_shape_of, specFor_names]
  have e2 : sp_shape_of.fd.np = 2 := by rw [sp_shape_of, specFor_fd]; rfl
  rw [e1, e2]; rw [e2] at hv
  obtain ⟨v0, v1, rfl⟩ := len2 hv
  exact b pm code doc v0 v1
theorem rec_allocate_or_collect : RecOk V (Str.ofString "allocate_or_collect") sp_allocate_or_collect := by
  refine ⟨⟨dr 15 (by decide), dr_mem 15 (by decide), by kernel_rfl, by kernel_rfl, by kernel_rfl, ?_⟩⟩
  have b : ∀ (pm code doc v0 v1 v2 v3 : Value), bindArgs (docDef (dr 15 (by decide)).name (dr 15 (by decide)).params (dr 15 (by decide)).body (dr 15 (by decide)).scope pm code doc) ⟨[v0, v1, v2, v3], []⟩ = pure ((ns_allocate_or_collect.take 4).zip [v0, v1, v2, v3]) := by intro pm code doc v0 v1 v2 v3; kernel_rfl
  intro pm code doc vs hv
  have e1 : sp_allocate_or_collect.names = ns_allocate_or_collect := by rw [sp_allocate_or_collect, specFor_names]
  have e2 : sp_allocate_or_collect.fd.np = 4 := by rw [sp_allocate_or_collect, specFor_fd]; rfl
  rw [e1, e2]; rw [e2] at hv
  obtain ⟨v0, v1, v2, v3, rfl⟩ := len4 hv
  exact b pm code doc v0 v1 v2 v3
theorem rec_law_words : RecOk V (Str.ofString "_law_words") sp_law_words := by
  refine ⟨⟨dr 16 (by decide), dr_mem 16 (by decide), by kernel_rfl, by kernel_rfl, by kernel_rfl, ?_⟩⟩
  have b : ∀ (pm code doc v0 v1 : Value), bindArgs (docDef (dr 16 (by decide)).name (dr 16 (by decide)).params (dr 16 (by decide)).body (dr 16 (by decide)).scope pm code doc) ⟨[v0, v1], []⟩ = pure ((ns_law_words.take 2).zip [v0, v1]) := by intro pm code doc v0 v1; kernel_rfl
  intro pm code doc vs hv
  have e1 : sp_law_words.names = ns_law_words := by rw [sp_law_words, specFor_names]
  have e2 : sp_law_words.fd.np = 2 := by rw [sp_law_words, specFor_fd]; rfl
  rw [e1, e2]; rw [e2] at hv
  obtain ⟨v0, v1, rfl⟩ := len2 hv
  exact b pm code doc v0 v1
theorem rec_law_places : RecOk V (Str.ofString "_law_places") sp_law_places := by
  refine ⟨⟨dr 17 (by decide), dr_mem 17 (by decide), by kernel_rfl, by kernel_rfl, by kernel_rfl, ?_⟩⟩
  have b : ∀ (pm code doc v0 v1 : Value), bindArgs (docDef (dr 17 (by decide)).name (dr 17 (by decide)).params (dr 17 (by decide)).body (dr 17 (by decide)).scope pm code doc) ⟨[v0, v1], []⟩ = pure ((ns_law_places.take 2).zip [v0, v1]) := by intro pm code doc v0 v1; kernel_rfl
  intro pm code doc vs hv
  have e1 : sp_law_places.names = ns_law_places := by rw [sp_law_places, specFor_names]
  have e2 : sp_law_places.fd.np = 2 := by rw [sp_law_places, specFor_fd]; rfl
  rw [e1, e2]; rw [e2] at hv
  obtain ⟨v0, v1, rfl⟩ := len2 hv
  exact b pm code doc v0 v1
theorem rec_law_heap : RecOk V (Str.ofString "_law_heap") sp_law_heap := by
  refine ⟨⟨dr 18 (by decide), dr_mem 18 (by decide), by kernel_rfl, by kernel_rfl, by kernel_rfl, ?_⟩⟩
  have b : ∀ (pm code doc v0 v1 v2 v3 : Value), bindArgs (docDef (dr 18 (by decide)).name (dr 18 (by decide)).params (dr 18 (by decide)).body (dr 18 (by decide)).scope pm code doc) ⟨[v0, v1, v2, v3], []⟩ = pure ((ns_law_heap.take 4).zip [v0, v1, v2, v3]) := by intro pm code doc v0 v1 v2 v3; kernel_rfl
  intro pm code doc vs hv
  have e1 : sp_law_heap.names = ns_law_heap := by rw [sp_law_heap, specFor_names]
  have e2 : sp_law_heap.fd.np = 4 := by rw [sp_law_heap, specFor_fd]; rfl
  rw [e1, e2]; rw [e2] at hv
  obtain ⟨v0, v1, v2, v3, rfl⟩ := len4 hv
  exact b pm code doc v0 v1 v2 v3
theorem rec_law_live : RecOk V (Str.ofString "_law_live") sp_law_live := by
  refine ⟨⟨dr 19 (by decide), dr_mem 19 (by decide), by kernel_rfl, by kernel_rfl, by kernel_rfl, ?_⟩⟩
  have b : ∀ (pm code doc v0 v1 : Value), bindArgs (docDef (dr 19 (by decide)).name (dr 19 (by decide)).params (dr 19 (by decide)).body (dr 19 (by decide)).scope pm code doc) ⟨[v0, v1], []⟩ = pure ((ns_law_live.take 2).zip [v0, v1]) := by intro pm code doc v0 v1; kernel_rfl
  intro pm code doc vs hv
  have e1 : sp_law_live.names = ns_law_live := by rw [sp_law_live, specFor_names]
  have e2 : sp_law_live.fd.np = 2 := by rw [sp_law_live, specFor_fd]; rfl
  rw [e1, e2]; rw [e2] at hv
  obtain ⟨v0, v1, rfl⟩ := len2 hv
  exact b pm code doc v0 v1
theorem rec_law_packed : RecOk V (Str.ofString "_law_packed") sp_law_packed := by
  refine ⟨⟨dr 20 (by decide), dr_mem 20 (by decide), by kernel_rfl, by kernel_rfl, by kernel_rfl, ?_⟩⟩
  have b : ∀ (pm code doc v0 : Value), bindArgs (docDef (dr 20 (by decide)).name (dr 20 (by decide)).params (dr 20 (by decide)).body (dr 20 (by decide)).scope pm code doc) ⟨[v0], []⟩ = pure ((ns_law_packed.take 1).zip [v0]) := by intro pm code doc v0; kernel_rfl
  intro pm code doc vs hv
  have e1 : sp_law_packed.names = ns_law_packed := by rw [sp_law_packed, specFor_names]
  have e2 : sp_law_packed.fd.np = 1 := by rw [sp_law_packed, specFor_fd]; rfl
  rw [e1, e2]; rw [e2] at hv
  obtain ⟨v0, rfl⟩ := len1 hv
  exact b pm code doc v0
theorem rec_law_seen : RecOk V (Str.ofString "_law_seen") sp_law_seen := by
  refine ⟨⟨dr 21 (by decide), dr_mem 21 (by decide), by kernel_rfl, by kernel_rfl, by kernel_rfl, ?_⟩⟩
  have b : ∀ (pm code doc v0 v1 : Value), bindArgs (docDef (dr 21 (by decide)).name (dr 21 (by decide)).params (dr 21 (by decide)).body (dr 21 (by decide)).scope pm code doc) ⟨[v0, v1], []⟩ = pure ((ns_law_seen.take 2).zip [v0, v1]) := by intro pm code doc v0 v1; kernel_rfl
  intro pm code doc vs hv
  have e1 : sp_law_seen.names = ns_law_seen := by rw [sp_law_seen, specFor_names]
  have e2 : sp_law_seen.fd.np = 2 := by rw [sp_law_seen, specFor_fd]; rfl
  rw [e1, e2]; rw [e2] at hv
  obtain ⟨v0, v1, rfl⟩ := len2 hv
  exact b pm code doc v0 v1
theorem rec_law_relaid : RecOk V (Str.ofString "_law_relaid") sp_law_relaid := by
  refine ⟨⟨dr 22 (by decide), dr_mem 22 (by decide), by kernel_rfl, by kernel_rfl, by kernel_rfl, ?_⟩⟩
  have b : ∀ (pm code doc v0 v1 : Value), bindArgs (docDef (dr 22 (by decide)).name (dr 22 (by decide)).params (dr 22 (by decide)).body (dr 22 (by decide)).scope pm code doc) ⟨[v0, v1], []⟩ = pure ((ns_law_relaid.take 2).zip [v0, v1]) := by intro pm code doc v0 v1; kernel_rfl
  intro pm code doc vs hv
  have e1 : sp_law_relaid.names = ns_law_relaid := by rw [sp_law_relaid, specFor_names]
  have e2 : sp_law_relaid.fd.np = 2 := by rw [sp_law_relaid, specFor_fd]; rfl
  rw [e1, e2]; rw [e2] at hv
  obtain ⟨v0, v1, rfl⟩ := len2 hv
  exact b pm code doc v0 v1
theorem rec_law_ways : RecOk V (Str.ofString "_law_ways") sp_law_ways := by
  refine ⟨⟨dr 23 (by decide), dr_mem 23 (by decide), by kernel_rfl, by kernel_rfl, by kernel_rfl, ?_⟩⟩
  have b : ∀ (pm code doc v0 v1 v2 v3 v4 : Value), bindArgs (docDef (dr 23 (by decide)).name (dr 23 (by decide)).params (dr 23 (by decide)).body (dr 23 (by decide)).scope pm code doc) ⟨[v0, v1, v2, v3, v4], []⟩ = pure ((ns_law_ways.take 5).zip [v0, v1, v2, v3, v4]) := by intro pm code doc v0 v1 v2 v3 v4; kernel_rfl
  intro pm code doc vs hv
  have e1 : sp_law_ways.names = ns_law_ways := by rw [sp_law_ways, specFor_names]
  have e2 : sp_law_ways.fd.np = 5 := by rw [sp_law_ways, specFor_fd]; rfl
  rw [e1, e2]; rw [e2] at hv
  obtain ⟨v0, v1, v2, v3, v4, rfl⟩ := len5 hv
  exact b pm code doc v0 v1 v2 v3 v4
theorem rec_law_lays : RecOk V (Str.ofString "_law_lays") sp_law_lays := by
  refine ⟨⟨dr 24 (by decide), dr_mem 24 (by decide), by kernel_rfl, by kernel_rfl, by kernel_rfl, ?_⟩⟩
  have b : ∀ (pm code doc v0 v1 v2 v3 v4 v5 v6 : Value), bindArgs (docDef (dr 24 (by decide)).name (dr 24 (by decide)).params (dr 24 (by decide)).body (dr 24 (by decide)).scope pm code doc) ⟨[v0, v1, v2, v3, v4, v5, v6], []⟩ = pure ((ns_law_lays.take 7).zip [v0, v1, v2, v3, v4, v5, v6]) := by intro pm code doc v0 v1 v2 v3 v4 v5 v6; kernel_rfl
  intro pm code doc vs hv
  have e1 : sp_law_lays.names = ns_law_lays := by rw [sp_law_lays, specFor_names]
  have e2 : sp_law_lays.fd.np = 7 := by rw [sp_law_lays, specFor_fd]; rfl
  rw [e1, e2]; rw [e2] at hv
  obtain ⟨v0, v1, v2, v3, v4, v5, v6, rfl⟩ := len7 hv
  exact b pm code doc v0 v1 v2 v3 v4 v5 v6
theorem rec_law_told : RecOk V (Str.ofString "_law_told") sp_law_told := by
  refine ⟨⟨dr 25 (by decide), dr_mem 25 (by decide), by kernel_rfl, by kernel_rfl, by kernel_rfl, ?_⟩⟩
  have b : ∀ (pm code doc v0 v1 v2 v3 v4 v5 v6 v7 : Value), bindArgs (docDef (dr 25 (by decide)).name (dr 25 (by decide)).params (dr 25 (by decide)).body (dr 25 (by decide)).scope pm code doc) ⟨[v0, v1, v2, v3, v4, v5, v6, v7], []⟩ = pure ((ns_law_told.take 8).zip [v0, v1, v2, v3, v4, v5, v6, v7]) := by intro pm code doc v0 v1 v2 v3 v4 v5 v6 v7; kernel_rfl
  intro pm code doc vs hv
  have e1 : sp_law_told.names = ns_law_told := by rw [sp_law_told, specFor_names]
  have e2 : sp_law_told.fd.np = 8 := by rw [sp_law_told, specFor_fd]; rfl
  rw [e1, e2]; rw [e2] at hv
  obtain ⟨v0, v1, v2, v3, v4, v5, v6, v7, rfl⟩ := len8 hv
  exact b pm code doc v0 v1 v2 v3 v4 v5 v6 v7
theorem rec_law_refusal : RecOk V (Str.ofString "_law_refusal") sp_law_refusal := by
  refine ⟨⟨dr 26 (by decide), dr_mem 26 (by decide), by kernel_rfl, by kernel_rfl, by kernel_rfl, ?_⟩⟩
  have b : ∀ (pm code doc v0 v1 : Value), bindArgs (docDef (dr 26 (by decide)).name (dr 26 (by decide)).params (dr 26 (by decide)).body (dr 26 (by decide)).scope pm code doc) ⟨[v0, v1], []⟩ = pure ((ns_law_refusal.take 2).zip [v0, v1]) := by intro pm code doc v0 v1; kernel_rfl
  intro pm code doc vs hv
  have e1 : sp_law_refusal.names = ns_law_refusal := by rw [sp_law_refusal, specFor_names]
  have e2 : sp_law_refusal.fd.np = 2 := by rw [sp_law_refusal, specFor_fd]; rfl
  rw [e1, e2]; rw [e2] at hv
  obtain ⟨v0, v1, rfl⟩ := len2 hv
  exact b pm code doc v0 v1
theorem rec_law : RecOk V (Str.ofString "law") sp_law := by
  refine ⟨⟨dr 27 (by decide), dr_mem 27 (by decide), by kernel_rfl, by kernel_rfl, by kernel_rfl, ?_⟩⟩
  have b : ∀ (pm code doc v0 : Value), bindArgs (docDef (dr 27 (by decide)).name (dr 27 (by decide)).params (dr 27 (by decide)).body (dr 27 (by decide)).scope pm code doc) ⟨[v0], []⟩ = pure ((ns_law.take 1).zip [v0]) := by intro pm code doc v0; kernel_rfl
  intro pm code doc vs hv
  have e1 : sp_law.names = ns_law := by rw [sp_law, specFor_names]
  have e2 : sp_law.fd.np = 1 := by rw [sp_law, specFor_fd]; rfl
  rw [e1, e2]; rw [e2] at hv
  obtain ⟨v0, rfl⟩ := len1 hv
  exact b pm code doc v0
theorem recs_ok : ∀ (f : Nat) sp x, specs[f]? = some sp → fnNames[f]? = some x → RecOk V x sp := by
  intro f sp x h1 h2
  match f, h1, h2 with
  | 0, h1, h2 => cases h1; cases h2; exact rec_is_pointer
  | 1, h1, h2 => cases h1; cases h2; exact rec_pointer_to
  | 2, h1, h2 => cases h1; cases h2; exact rec_address_of
  | 3, h1, h2 => cases h1; cases h2; exact rec_blocks_of
  | 4, h1, h2 => cases h1; cases h2; exact rec_free_words
  | 5, h1, h2 => cases h1; cases h2; exact rec_allocate
  | 6, h1, h2 => cases h1; cases h2; exact rec_fields_of
  | 7, h1, h2 => cases h1; cases h2; exact rec_with_field
  | 8, h1, h2 => cases h1; cases h2; exact rec_reachable
  | 9, h1, h2 => cases h1; cases h2; exact rec_live_words
  | 10, h1, h2 => cases h1; cases h2; exact rec_swept
  | 11, h1, h2 => cases h1; cases h2; exact rec_collected_by_sweeping
  | 12, h1, h2 => cases h1; cases h2; exact rec_forwarded
  | 13, h1, h2 => cases h1; cases h2; exact rec_collected_by_copying
  | 14, h1, h2 => cases h1; cases h2; exact rec_shape_of
  | 15, h1, h2 => cases h1; cases h2; exact rec_allocate_or_collect
  | 16, h1, h2 => cases h1; cases h2; exact rec_law_words
  | 17, h1, h2 => cases h1; cases h2; exact rec_law_places
  | 18, h1, h2 => cases h1; cases h2; exact rec_law_heap
  | 19, h1, h2 => cases h1; cases h2; exact rec_law_live
  | 20, h1, h2 => cases h1; cases h2; exact rec_law_packed
  | 21, h1, h2 => cases h1; cases h2; exact rec_law_seen
  | 22, h1, h2 => cases h1; cases h2; exact rec_law_relaid
  | 23, h1, h2 => cases h1; cases h2; exact rec_law_ways
  | 24, h1, h2 => cases h1; cases h2; exact rec_law_lays
  | 25, h1, h2 => cases h1; cases h2; exact rec_law_told
  | 26, h1, h2 => cases h1; cases h2; exact rec_law_refusal
  | 27, h1, h2 => cases h1; cases h2; exact rec_law
  | k + 28, h1, h2 => simp [specs] at h1
noncomputable def biNames : List String := ["len", "abs", "sum", "all"]
noncomputable def tyNames : List String := ["list", "range", "dict", "type", "str", "int", "tuple", "ValueError"]
theorem free_ok : ∀ x ∈ biNames ++ tyNames, Str.ofString x ∉ startupNames ∧ Str.ofString x ∉ looseW V [] ∧ Str.ofString x ∉ (recsOf V).map (·.name) ∧ Str.ofString x ∉ (litsOf V).map (·.1) ∧ Str.ofString x ∉ (clssOf V (looseW V [])).map (·.name) ∧ Str.ofString x ≠ Str.ofString "__name__" := by decide +kernel
theorem boot_bi : ∀ x ∈ biNames, bootBuiltins (Str.ofString x) = some (.builtin x) := by decide +kernel
theorem boot_ty : ∀ x ∈ tyNames, bootBuiltins (Str.ofString x) = some (.type x) := by decide +kernel
theorem own_spec : specOf V oomX = some ("Exception.__new__", oomBm) := by kernel_rfl
noncomputable def addrIn (mg : Str → Option Value) (x : Str) : Addr := match mg x with | some (.ref a) => a | _ => 0
noncomputable def theMod (mg mb : Str → Option Value) (tp tc : Addr) : Mod := { mg := mg, mb := mb, fns := fnNames.map fun x => (x, addrIn mg x), twos := twos, specs := specs, tp := tp, tc := tc, tps := #[] }
section
variable {mean : ExcName → Option Value} {mg mb : Str → Option Value} {h : Heap}
theorem fns_get {tp tc : Addr} {f : Nat} {x : Str} {a : Addr} (e : (theMod mg mb tp tc).fns[f]? = some (x, a)) : fnNames[f]? = some x ∧ a = addrIn mg x := by
  have e' : (fnNames.map fun x => (x, addrIn mg x))[f]? = some (x, a) := e
  rw [List.getElem?_map] at e'
  obtain ⟨y, e1, e2⟩ := Option.map_eq_some_iff.mp e'
  cases e2; exact ⟨e1, rfl⟩
theorem fn_addr (T : Top V (looseW V []) mean mg mb h) {f : Nat} {x : Str} (e : fnNames[f]? = some x) : mg x = some (.ref (addrIn mg x)) := by
  have hl : f < 28 := (List.getElem?_eq_some_iff.mp e).1
  obtain ⟨sp, hsp⟩ : ∃ sp, specs[f]? = some sp := ⟨_, List.getElem?_eq_getElem hl⟩
  obtain ⟨d, hd1, rfl, _⟩ := (recs_ok f sp x hsp e).ex
  obtain ⟨a, o, pm, code, doc, h1, _⟩ := T.fn d hd1
  unfold addrIn; rw [h1]
theorem theMod_ok (T : Top V (looseW V []) mean mg mb h) (tp tc : Addr) : ModOk (theMod mg mb tp tc) where
  ok := by
    have fr : ∀ x ∈ biNames ++ tyNames, mg (Str.ofString x) = none ∧ mb (Str.ofString x) = bootBuiltins (Str.ofString x) := fun x hx => by
      obtain ⟨h1, h2, h3, h4, h5, h6⟩ := free_ok x hx
      exact ⟨T.free _ h1 h2 h3 h4 h5, T.builtins _ h6⟩
    refine ⟨fun x hx => ?_, fun x hx => ?_, fun x a hx => ?_⟩
    · have := fr x (List.mem_append_left _ hx)
      exact ⟨this.1, this.2.trans (boot_bi x hx)⟩
    · have := fr x (List.mem_append_right _ hx)
      exact ⟨this.1, this.2.trans (boot_ty x hx)⟩
    · obtain ⟨f, hf⟩ := List.getElem?_of_mem hx
      obtain ⟨e1, rfl⟩ := fns_get hf
      exact fn_addr T e1
  fn := fun f x e => ⟨addrIn mg x, by show (fnNames.map fun x => (x, addrIn mg x))[f]? = _; rw [List.getElem?_map, e]; rfl⟩
  specs := rfl
  twos := rfl
theorem ns_hide {P a : Addr} {m : Str → Option Value} {op : Obj} {ps : Array Value} (hP : h.get? P = some op) (hd : op.data = .fields ps) (x : h.Ns a m) : (h.hide P).Ns a m := by
  obtain ⟨o, es, ep, e, d, r⟩ := x
  refine ⟨o, es, ep, (Heap.hide_ne h fun q => ?_).trans e, d, r⟩
  subst q; rw [hP] at e; cases e; rw [hd] at d; cases d
theorem tail_hide {P : Addr} {op : Obj} {ps : Array Value} (hP : h.get? P = some op) (hd : op.data = .fields ps) {bmB tl : List Value} (T : OwnTailQ h bmB tl) : OwnTailQ (h.hide P) bmB tl := by
  induction T with
  | base => exact .base
  | own hA hN hq _ ih =>
    refine .own ((Heap.hide_ne h fun q => ?_).trans hA) (ns_hide hP hd hN) hq ih
    subst q; rw [hP] at hA; cases hA; cases hd
theorem theMod_in (T : Top V (looseW V []) mean mg mb h) {tp tc : Addr} (hP : h.get? tp = some { cls := .none, data := .fields #[] }) : (theMod mg mb tp tc).In (h.hide tp) where
  g := ns_hide hP rfl T.g
  b := ns_hide hP rfl T.b
  nolimit := let ⟨mc, h1, h2⟩ := T.nolimit; ⟨mc, ns_hide hP rfl h1, h2⟩
  nodigits := let ⟨mc, h1, h2⟩ := T.nodigits; ⟨mc, ns_hide hP rfl h1, h2⟩
  fn := fun x a hx => by
    obtain ⟨f, hf⟩ := List.getElem?_of_mem hx
    obtain ⟨e1, rfl⟩ := fns_get hf
    have hl : f < 28 := (List.getElem?_eq_some_iff.mp e1).1
    obtain ⟨sp, hsp⟩ : ∃ sp, specs[f]? = some sp := ⟨_, List.getElem?_eq_getElem hl⟩
    obtain ⟨d, hd1, rfl, _⟩ := (recs_ok f sp x hsp e1).ex
    obtain ⟨a, o, pm, code, doc, h1, h2, h3, _⟩ := T.fn d hd1
    have ea : addrIn mg d.name = a := by unfold addrIn; rw [h1]
    rw [ea]
    refine ⟨o, _, (Heap.hide_ne h fun q => ?_).trans h2, h3⟩
    subst q; rw [hP] at h2; cases h2; cases h3
  code := fun f x a sp e1 e2 => by
    obtain ⟨e0, rfl⟩ := fns_get e1
    obtain ⟨d, hd1, rfl, hb, hs, hbind⟩ := (recs_ok f sp x e2 e0).ex
    obtain ⟨a, o, pm, code, doc, h1, h2, h3, c, oc, vs, t, r1, r2, r3, r4⟩ := T.fn d hd1
    have ea : addrIn mg d.name = a := by unfold addrIn; rw [h1]
    rw [ea]
    refine ⟨o, _, (Heap.hide_ne h fun q => ?_).trans h2, h3, ?_, hs, rfl, rfl, rfl, ⟨c, oc, vs, t, r1, (Heap.hide_ne h fun q => ?_).trans r2, r3, r4⟩, hbind pm code doc⟩
    · subst q; rw [hP] at h2; cases h2; cases h3
    · show FuncBody.stmts d.body = _; rw [hb]
    · subst q; rw [hP] at r2; cases r2; cases r3; simp at r4
theorem theMod_own (T : Top V (looseW V []) mean mg mb h) {tp tc : Addr} (hP : h.get? tp = some { cls := .none, data := .fields #[] }) : ∃ C, Own (theMod mg mb tp tc) (h.hide tp) C := by
  obtain ⟨C, O, _⟩ := T.ownAt own_spec
  obtain ⟨bm, N, nm, q, bs, hdct, sn, sub, ab, col, dd, k0, k1, k2, k3, k5, mN, hC, hN, hq, TT⟩ := O.obj
  refine ⟨C, O.bound, bm, N, nm, q, bs, hdct, sn, sub, ab, col, dd, k0, k1, k2, k3, k5, mN, (Heap.hide_ne h fun z => ?_).trans hC, ns_hide hP rfl hN, hq, tail_hide hP rfl TT⟩
  subst z; rw [hP] at hC; cases hC
theorem theMod_gen (T : Top V (looseW V []) mean mg mb h) {tp tc : Addr} (hP : h.get? tp = some { cls := .none, data := .fields #[] })
    (hc : ∀ o fdd, h.get? (addrIn mg (Str.ofString "_law_ways")) = some o → o.data = .func fdd → fdd.code = .ref tc) : GenOk (theMod mg mb tp tc) (h.hide tp) where
  bm := by
    obtain ⟨bm, ob, h1, h2, h3, h4, h5, h6⟩ := T.bmain
    refine ⟨bm, ob, ns_hide hP rfl T.g, h1, h2, (Heap.hide_ne h fun z => ?_).trans h3, h4, h5, h6⟩
    subst z; rw [hP] at h3; cases h3; cases h6
  code := fun x a ob fdd e1 e2 e3 => by
    obtain ⟨e0, rfl⟩ := fns_get e1
    have ex : x = Str.ofString "_law_ways" := (Option.some.inj e0).symm
    subst ex
    exact hc ob fdd (Heap.of_hide e2) e3
end
theorem rds_ints {h : Heap} {vs : List Value} {ns : List Int} (r : IntsAre vs ns) : Rds h vs (ns.map .int) [] := by
  induction r with
  | nil => exact .nil
  | cons n t r ih => exact Rds.cons (as := []) (.int n t) ih
theorem post_ok (A : List WData) : PySem.Challenge.rw_sx_zcinder_5.row.claim.post A (WData.bool true) A = true := by
  kernel_rfl
theorem glue {N : Nat} (hN : N ≤ 20) (pure : ∀ (ns : List Int), ns.length ≤ 63 → ∀ (prog : Program) (w : World) (m : Mod) (B0 : Heap) (C : Addr), ModOk m → GenOk m B0 → Own m B0 C → LSpec prog w m B0 N 27 [.list (ns.map .int)] (.ret (.bool true))) : PySem.Challenge.rw_sx_zcinder_5.Holds := hd (by
  intro w s₀ s₁ mg mb G Y fa o pm cd doc dV kV ho hd' hcd hD hmg hg args vals as hpre hlay hrd hwl hlo
  clear Y hcd hD ho hd'
  have T := G.T
  have hmg' : mg (Str.ofString "law") = some (.ref fa) := hmg
  clear hmg
  obtain ⟨a, o, fd, tc, tp, t1, t2, t3, t4, t5, t6⟩ := T.tab (dr 23 (by decide)) (dr_mem 23 (by decide))
  have hP := t6.2
  have M : ModOk (theMod mg mb tp tc) := theMod_ok T tp tc
  have e23 : (dr 23 (by decide)).name = Str.ofString "_law_ways" := by kernel_rfl
  rw [e23] at t1
  have GG : GenOk (theMod mg mb tp tc) (s₁.heap.hide tp) := theMod_gen T hP (fun o' fdd q1 q2 => by
    have ea : addrIn mg (Str.ofString "_law_ways") = a := by unfold addrIn; rw [t1]
    rw [ea, t2] at q1; cases q1
    rw [t3] at q2; cases q2; exact t4)
  obtain ⟨C, O⟩ := theMod_own (tc := tc) T hP
  have hin := theMod_in (tc := tc) T hP
  have hf : (theMod mg mb tp tc).fns[27]? = some (Str.ofString "law", fa) := by
    show some (Str.ofString "law", addrIn mg (Str.ofString "law")) = _
    unfold addrIn; rw [hmg']
  have K : Stk (theMod mg mb tp tc) (s₁.heap.hide tp) callerA [] s₁.heap := ⟨rfl, hin, fun b ob e => Heap.of_hide e, trivial, Heap.hide_self _ _, ⟨#[], t5, t6⟩⟩
  wrow_args hpre hlay hrd hwl hlo
  rename_i ns hs hlay0 hL1 hr1 hl2 as1 as2 la lv las hL ra w1 r0 hI hr hcond hcond2
  have hns : ns.length ≤ 63 := by lia
  have hrds : ∃ fp, Rds s₁.heap [.ref la] [.list (ns.map .int)] fp := by
    refine ⟨_, .cons (.list (vs := lv) ?_ (rds_ints hI)) .nil⟩
    cases w1 with
    | list e _ =>
      obtain ⟨ob, e1, e2, nn, e3⟩ := hL
      rw [e] at e1; cases e1
      exact ⟨_, _, e, rfl, rfl, e3⟩
  obtain ⟨fp, hrds⟩ := hrds
  have hu : callerA.units + 600 + 1 ≤ cLine := by decide
  have hA : AOk N callerA := ⟨rfl, by show 301 + N < recursionLimit; unfold recursionLimit; lia, by lia⟩
  refine pure ns hns _ w _ _ C M GG O _ fa hf callerA s₁ [.ref la] fp [] hA K (AllBare.of_eq hg) hrds (fun z hz q => (nomatch q)) _ _ ?_
  intro v s' fp' t r sub
  cases r
  obtain ⟨hh, tk, g, e⟩ := t.same
  obtain ⟨more, _, ta⟩ := t.tbl ⟨#[], t5, t6⟩
  refine ⟨.inl ⟨_, .bool true, [], rfl, fun cls => rfl, .bool true, ?_, fun _ => ⟨.nil, fun _ q => (nomatch q)⟩⟩, ⟨fun b ob q => ?_, fun b ob q => ?_⟩, by rw [e], t.bare (AllBare.of_eq hg)⟩
  · exact post_ok _
  · by_cases hb : b = tp
    · subst hb
      have q' := hP
      rw [q] at q'; cases q'
      exact .inr (.inl ⟨t6.isCodeTable, rfl, #[], more, rfl, ta.2⟩)
    · exact .inl (t.keep b ob (fun z => (nomatch z)) hb q)
  · by_cases hb : b = tp
    · subst hb; exact ⟨_, ta.2⟩
    · exact ⟨_, t.keep b ob (fun z => (nomatch z)) hb q⟩)
end Mine

namespace Mine
open PySem
set_option autoImplicit false
set_option maxRecDepth 100000
noncomputable def iL (xs : List Int) : PyData := .list (xs.map .int)
noncomputable def iLL (xss : List (List Int)) : PyData := .list (xss.map iL)
inductive Pure : Nat → PyData → Prop
  | int {k : Nat} (i : Int) : Pure k (.int i)
  | list {k : Nat} {xs : List PyData} : (∀ x ∈ xs, Pure k x) → Pure (k + 1) (.list xs)
  | tuple {k : Nat} {xs : List PyData} : (∀ x ∈ xs, Pure k x) → Pure (k + 1) (.tuple xs)
theorem pure_iL (k : Nat) (xs : List Int) : Pure (k + 1) (iL xs) := .list fun x hx => by obtain ⟨i, _, rfl⟩ := List.mem_map.mp hx; exact .int i
theorem pure_iLL (k : Nat) (xs : List (List Int)) : Pure (k + 2) (iLL xs) := .list fun x hx => by obtain ⟨i, _, rfl⟩ := List.mem_map.mp hx; exact pure_iL k i
theorem pure_pair {k : Nat} {a b : PyData} (ha : Pure k a) (hb : Pure k b) : Pure (k + 1) (.tuple [a, b]) := .tuple fun x hx => by
  rcases List.mem_cons.mp hx with rfl | hx
  · exact ha
  · rcases List.mem_cons.mp hx with rfl | hx
    · exact hb
    · cases hx
theorem pure_three {k : Nat} {a b c : PyData} (ha : Pure k a) (hb : Pure k b) (hc : Pure k c) : Pure (k + 1) (.tuple [a, b, c]) := .tuple fun x hx => by
  rcases List.mem_cons.mp hx with rfl | hx
  · exact ha
  · rcases List.mem_cons.mp hx with rfl | hx
    · exact hb
    · rcases List.mem_cons.mp hx with rfl | hx
      · exact hc
      · cases hx
theorem ff {P : Prop} (h : false = true) : P := nomatch h
theorem eqvAll_iff : ∀ (xs ys : List PyData), (∀ x ∈ xs, ∀ k, ∀ y ∈ ys, Pure k y → (PyData.eqv x y = true ↔ x = y)) → (∀ y ∈ ys, ∃ k, Pure k y) → (PyData.eqvAll xs ys = true ↔ xs = ys)
  | [], [], _, _ => ⟨fun _ => rfl, fun _ => rfl⟩
  | [], y :: ys, _, _ => ⟨fun h => ff h, fun h => nomatch h⟩
  | x :: xs, [], _, _ => ⟨fun h => ff h, fun h => nomatch h⟩
  | x :: xs, y :: ys, h, hy => by
    obtain ⟨k, hk⟩ := hy y (.head _)
    show (PyData.eqv x y && PyData.eqvAll xs ys) = true ↔ _
    rw [Bool.and_eq_true, h x (.head _) k y (.head _) hk, eqvAll_iff xs ys (fun z hz k w hw => h z (.tail _ hz) k w (.tail _ hw)) (fun z hz => hy z (.tail _ hz)), List.cons.injEq]
theorem eqv_iff {k : Nat} {x : PyData} (hx : Pure k x) : ∀ {j : Nat} {y : PyData}, Pure j y → (PyData.eqv x y = true ↔ x = y) := by
  induction hx with
  | int i =>
    intro j y hy
    cases hy with
    | int j => exact ⟨fun h => congrArg PyData.int (eq_of_beq (a := i) (b := j) h), fun h => by cases h; exact beq_self_eq_true i⟩
    | list _ => exact ⟨fun h => ff h, fun h => nomatch h⟩
    | tuple _ => exact ⟨fun h => ff h, fun h => nomatch h⟩
  | list h ih =>
    intro j y hy
    cases hy with
    | int j => exact ⟨fun h => ff h, fun h => nomatch h⟩
    | tuple _ => exact ⟨fun h => ff h, fun h => nomatch h⟩
    | list h2 =>
      have e := eqvAll_iff _ _ (fun x hx k y _ hy => ih x hx hy) (fun y hy => ⟨_, h2 y hy⟩)
      exact ⟨fun h => congrArg PyData.list (e.mp h), fun h => e.mpr (PyData.list.inj h)⟩
  | tuple h ih =>
    intro j y hy
    cases hy with
    | int j => exact ⟨fun h => ff h, fun h => nomatch h⟩
    | list _ => exact ⟨fun h => ff h, fun h => nomatch h⟩
    | tuple h2 =>
      have e := eqvAll_iff _ _ (fun x hx k y _ hy => ih x hx hy) (fun y hy => ⟨_, h2 y hy⟩)
      exact ⟨fun h => congrArg PyData.tuple (e.mp h), fun h => e.mpr (PyData.tuple.inj h)⟩
theorem eqv_refl {k : Nat} {x : PyData} (hx : Pure k x) : PyData.eqv x x = true := (eqv_iff hx hx).mpr rfl
theorem lay_all {xs : List PyData} (h : ∀ x ∈ xs, x.canLay0 = true) : PyData.canLayAll0 xs = true := by
  induction xs with
  | nil => rfl
  | cons x xs ih => exact Bool.and_eq_true_iff.mpr ⟨h x (.head _), ih fun y hy => h y (.tail _ hy)⟩
theorem depth_all {k : Nat} {xs : List PyData} (h : ∀ x ∈ xs, x.depth ≤ k) : PyData.depthAll xs ≤ k := by
  induction xs with
  | nil => exact Nat.zero_le _
  | cons x xs ih => exact Nat.max_le.mpr ⟨h x (.head _), ih fun y hy => h y (.tail _ hy)⟩
theorem pure_lay {k : Nat} {x : PyData} (hx : Pure k x) : x.canLay0 = true ∧ x.depth ≤ k := by
  induction hx with
  | int i => exact ⟨rfl, Nat.zero_le _⟩
  | list h ih => exact ⟨lay_all fun x hx => (ih x hx).1, Nat.succ_le_succ (depth_all fun x hx => (ih x hx).2)⟩
  | tuple h ih => exact ⟨lay_all fun x hx => (ih x hx).1, Nat.succ_le_succ (depth_all fun x hx => (ih x hx).2)⟩
theorem pure_shallow {k : Nat} {x : PyData} (hx : Pure k x) (hk : k ≤ 16 := by decide) : shallow x = true := by
  unfold shallow
  rw [(pure_lay hx).1, Bool.true_and, decide_eq_true_iff]
  exact Nat.le_trans (pure_lay hx).2 hk
theorem cmp_eq {k j : Nat} {x y : PyData} (hx : Pure k x) (hy : Pure j y) (hk : k ≤ 16 := by decide) (hj : j ≤ 16 := by decide) : dCmp .eq x y = some (PyData.eqv x y) :=
  if_pos (Bool.and_eq_true_iff.mpr ⟨pure_shallow hx hk, pure_shallow hy hj⟩)
theorem cmp_ne {k j : Nat} {x y : PyData} (hx : Pure k x) (hy : Pure j y) (hk : k ≤ 16 := by decide) (hj : j ≤ 16 := by decide) : dCmp .ne x y = some (!PyData.eqv x y) :=
  if_pos (Bool.and_eq_true_iff.mpr ⟨pure_shallow hx hk, pure_shallow hy hj⟩)
theorem cmp_ne_same {k : Nat} {x : PyData} (hx : Pure k x) (hk : k ≤ 16 := by decide) : dCmp .ne x x = some false := by rw [cmp_ne hx hx hk hk, eqv_refl hx]; rfl
theorem cmp_eq_int (a b : Int) : dCmp .eq (.int a) (.int b) = some (decide (a = b)) := cmp_eq (k := 0) (j := 0) (.int a) (.int b)
theorem cmp_ne_int (a b : Int) : dCmp .ne (.int a) (.int b) = some (!decide (a = b)) := cmp_ne (k := 0) (j := 0) (.int a) (.int b)
theorem any_int (xs : List Int) (a : Int) : ((xs.map PyData.int).any fun y => PyData.eqv y (.int a)) = decide (a ∈ xs) := by
  induction xs with
  | nil => rfl
  | cons x xs ih =>
    rw [List.map_cons, List.any_cons, ih]
    simp only [o_e1, List.mem_cons, Bool.decide_or]
    congr 1
    exact decide_eq_decide.mpr eq_comm
theorem cmp_in (a : Int) (xs : List Int) : dCmp .isin (.int a) (iL xs) = some (decide (a ∈ xs)) :=
  (if_pos (Bool.and_eq_true_iff.mpr ⟨pure_shallow (k := 0) (.int a), pure_shallow (pure_iL 0 xs)⟩)).trans (congrArg some (any_int xs a))
theorem cmp_notin (a : Int) (xs : List Int) : dCmp .notin (.int a) (iL xs) = some (!decide (a ∈ xs)) :=
  (if_pos (Bool.and_eq_true_iff.mpr ⟨pure_shallow (k := 0) (.int a), pure_shallow (pure_iL 0 xs)⟩)).trans (congrArg (fun b => some (!b)) (any_int xs a))
theorem iL_cat {xs ys : List Int} (h : xs.length + ys.length ≤ lim) : dCat (iL xs) (iL ys) = some (iL (xs ++ ys)) := by
  unfold iL dCat; simp only [List.length_map]; rw [if_pos h, List.map_append]
theorem iL_len {xs : List Int} (h : xs.length ≤ lim) : dLen (iL xs) = some (.int xs.length) := by
  unfold iL dLen; simp only [List.length_map]; rw [if_pos h]
theorem iL_idx {xs : List Int} {i : Nat} {v : Int} (h : xs[i]? = some v) (hi : i < 1048576) : dIdx (iL xs) (.int i) = some (.int v) := by
  unfold iL dIdx; simp only; rw [if_pos ⟨by lia, by lia⟩]; simp [h]
theorem iLL_idx {xs : List (List Int)} {i : Nat} {v : List Int} (h : xs[i]? = some v) (hi : i < 1048576) : dIdx (iLL xs) (.int i) = some (iL v) := by
  unfold iLL dIdx; simp only; rw [if_pos ⟨by lia, by lia⟩]; simp [h]
theorem iL_set {xs : List Int} {i : Nat} {v : Int} (h : i < xs.length) (hl : xs.length ≤ lim) : dStore (iL xs) (.int i) (.int v) = some (iL (xs.set i v)) := by
  unfold iL dStore; simp only [List.length_map]; rw [if_pos ⟨by lia, by lia, hl⟩]; simp [List.map_set]
theorem iL_append {xs : List Int} {v : Int} (hl : xs.length < lim) : dAppend (iL xs) (.int v) = some (iL (xs ++ [v])) := by
  unfold iL dAppend; simp only [List.length_map]; rw [if_pos hl]; simp
theorem iLL_append {xs : List (List Int)} {v : List Int} (hl : xs.length < lim) : dAppend (iLL xs) (iL v) = some (iLL (xs ++ [v])) := by
  unfold iLL dAppend; simp only [List.length_map]; rw [if_pos hl]; simp
theorem iL_listOf {xs : List Int} (h : xs.length ≤ lim) : dListOf (iL xs) = some (iL xs) := by
  unfold iL dListOf; simp only [List.length_map]; rw [if_pos h]
theorem iL_items {xs : List Int} (h : xs.length ≤ lim) : itemsOf false (iL xs) = some (xs.map .int) := by
  unfold iL itemsOf; simp only [List.length_map, Bool.false_eq_true, if_false]; rw [if_pos h]
theorem iLL_items {xs : List (List Int)} (h : xs.length ≤ lim) : itemsOf false (iLL xs) = some (xs.map iL) := by
  unfold iLL itemsOf; simp only [List.length_map, Bool.false_eq_true, if_false]; rw [if_pos h]
theorem range_items {n : Nat} (h : n ≤ 1048576) : itemsOf true (.int (n : Int)) = some ((List.range n).map fun (i : Nat) => PyData.int (i : Int)) := by
  rw [o_xI, if_pos rfl, if_pos (by lia)]; simp [rangeOf]
theorem iL_repl {c : Int} {n : Int} (h1 : n.natAbs ≤ 1048576) : dRepl (.int c) (.int n) = some (iL (List.replicate n.toNat c)) := by
  unfold dRepl iL; simp only; rw [if_pos h1]; simp
theorem intOf_all (xs : List Int) : allSome intOf (xs.map .int) = some xs := by
  induction xs with
  | nil => rfl
  | cons x xs ih => exact o_as rfl ih
theorem iL_sum {xs : List Int} (h : xs.length ≤ lim) : dSum (iL xs) = some (.int xs.sum) := by
  unfold iL dSum; simp only [List.length_map]; rw [if_pos h, intOf_all]; rfl
theorem iL_slLH {xs : List Int} {lo hi : Int} (h : xs.length ≤ lim) : dSlLH (iL xs) (.int lo) (.int hi) = some (iL ((xs.take (clampI xs.length hi)).drop (clampI xs.length lo))) := by
  unfold iL dSlLH; simp only [List.length_map]; rw [if_pos h]; simp [List.map_take, List.map_drop]
theorem iL_slH {xs : List Int} {hi : Int} (h : xs.length ≤ lim) : dSlH (iL xs) (.int hi) = some (iL (xs.take (clampI xs.length hi))) := by
  unfold iL dSlH; simp only [List.length_map]; rw [if_pos h]; simp [List.map_take]
theorem iL_slL {xs : List Int} {lo : Int} (h : xs.length ≤ lim) : dSlL (iL xs) (.int lo) = some (iL (xs.drop (clampI xs.length lo))) := by
  unfold iL dSlL; simp only [List.length_map]; rw [if_pos h]; simp [List.map_drop]
theorem clamp_nat (n i : Nat) : clampI n (i : Int) = min i n := by
  unfold clampI; rw [if_neg (by lia)]; simp
theorem call_run {fuel n f : Nat} {fd : FD} {args : List PyData} {d : PyData} {σ : Store} (ht : tab[f]? = some fd) (hlen : args.length = fd.np) (hpro : fd.pro = []) (hσ : startStore fd args = σ) (h : denSs (callD tab fuel n) fuel fd.body σ = some (.ret d)) : callD tab fuel (n + 1) f args = some d := by
  rw [o_ca, ht]
  show runD _ _ _ _ = _
  unfold runD
  rw [if_pos ⟨hlen, by rw [hpro]; rfl⟩, hσ, h]
section
variable {Φ : Nat → List PyData → Option PyData} {fuel : Nat} {σ σ' : Store} {r : PSs} {R : Option Res} {x : Nat} {e i : PE} {d : PyData}
theorem step_next {s : PS} (h1 : denS Φ fuel s σ = some (.next σ')) (h2 : denSs Φ fuel r σ' = R) : denSs Φ fuel (.cons s r) σ = R := by
  rw [dSs_cons, h1]; exact h2
theorem step_ret {s : PS} (h1 : denS Φ fuel s σ = some (.ret d)) : denSs Φ fuel (.cons s r) σ = some (.ret d) := by
  rw [dSs_cons, h1]
theorem s_assign' (h : denE Φ e σ = some d) : denS Φ fuel (.assign x e) σ = some (.next (σ.set x (some d))) := by rw [dS_assign, h]; rfl
theorem s_ret' (h : denE Φ e σ = some d) : denS Φ fuel (.ret e) σ = some (.ret d) := by rw [dS_ret, h]; rfl
theorem s_forL' {it : PE} {body : PSs} {items : List PyData} (h : denE Φ it σ = some d) (hi : itemsOf false d = some items) : denS Φ fuel (.forL x it body) σ = loopD (denSs Φ fuel body) x items σ := by rw [dS_forL, h]; simp only [Option.bind_some, hi]
theorem s_forR' {it : PE} {body : PSs} {items : List PyData} (h : denE Φ it σ = some d) (hi : itemsOf true d = some items) : denS Φ fuel (.forR x it body) σ = loopD (denSs Φ fuel body) x items σ := by rw [dS_forR, h]; simp only [Option.bind_some, hi]
theorem s_append' {l l' : PyData} (h : σ.get x = some l) (he : denE Φ e σ = some d) (ha : dAppend l d = some l') : denS Φ fuel (.append x e) σ = some (.next (σ.set x (some l'))) := by rw [dS_append, h]; simp only [Option.bind_some, he, ha]
theorem s_store' {l l' k : PyData} (he : denE Φ e σ = some d) (h : σ.get x = some l) (hk : denE Φ i σ = some k) (ha : dStore l k d = some l') : denS Φ fuel (.store x i e) σ = some (.next (σ.set x (some l'))) := by rw [dS_store, he]; simp only [Option.bind_some, h, hk, ha]
theorem s_ite_t {c : PC} {a b : PSs} (h : denC Φ c σ = some true) : denS Φ fuel (.ite c a b) σ = denSs Φ fuel a σ := by rw [dS_ite, h]; rfl
theorem s_ite_f {c : PC} {a b : PSs} (h : denC Φ c σ = some false) : denS Φ fuel (.ite c a b) σ = denSs Φ fuel b σ := by rw [dS_ite, h]; rfl
theorem s_skip {c : PC} {a : PSs} (h : denC Φ c σ = some false) : denS Φ fuel (.ite c a .nil) σ = some (.next σ) := by rw [s_ite_f h, dSs_nil]
theorem s_while' {c : PC} {body : PSs} : denS Φ fuel (.while c body) σ = whileD (denC Φ c) (denSs Φ fuel body) fuel σ := by rw [dS_while]
theorem ss_nil' : denSs Φ fuel .nil σ = some (.next σ) := by rw [dSs_nil]
theorem e_comp' {z : Str} {caps : List Nat} {rng : Bool} {src elt : PE} {cond : PC} {items ds : List PyData} (h : denE Φ src σ = some d) (hi : itemsOf rng d = some items)
    (hc : compD (fun d => denC Φ cond (some d :: caps.map σ.get)) (fun d => denE Φ elt (some d :: caps.map σ.get)) items = some ds) : denE Φ (.comp z caps rng src cond elt) σ = some (.list ds) := by
  rw [den_comp, h]; simp only [Option.bind_some, hi, hc, Option.map_some]
end
end Mine

namespace Mine
open PySem
set_option autoImplicit false
set_option maxRecDepth 100000
inductive Cell where
  | ptr (n : Nat)
  | val (v : Int)
noncomputable def Cell.word (p : Nat → Nat) : Cell → Int
  | .ptr n => 2 * (p n : Int) + 1
  | .val v => v
noncomputable def Cell.ok : Cell → Prop
  | .ptr _ => True
  | .val v => v % 2 = 0
noncomputable def words (p : Nat → Nat) (cs : List Cell) : List Int := cs.map (Cell.word p)
noncomputable def addC (met : List Nat) : Cell → List Nat
  | .ptr n => if n ∈ met then met else met ++ [n]
  | .val _ => met
noncomputable def addCs (met : List Nat) (cs : List Cell) : List Nat := cs.foldl addC met
noncomputable def closeN (R : Nat → List Cell) : Nat → Nat → List Nat → List Nat
  | 0, _, met => met
  | f + 1, p, met => match met[p]? with
    | some n => closeN R f (p + 1) (addCs met (R n))
    | none => met
noncomputable def liveN (R : Nat → List Cell) (roots : List Cell) : List Nat := closeN R 8 0 (addCs [] roots)
theorem words_length (p : Nat → Nat) (cs : List Cell) : (words p cs).length = cs.length := by simp [words]
noncomputable def ObjAt (mem : List Int) (a : Nat) (ws : List Int) : Prop := ∃ A B, mem = A ++ ((ws.length : Int) :: ws) ++ B ∧ A.length = a
theorem ObjAt.head {mem : List Int} {a : Nat} {ws : List Int} (h : ObjAt mem a ws) : mem[a]? = some (ws.length : Int) := by
  obtain ⟨A, B, rfl, rfl⟩ := h; simp
theorem ObjAt.fits {mem : List Int} {a : Nat} {ws : List Int} (h : ObjAt mem a ws) : a + ws.length + 1 ≤ mem.length := by
  obtain ⟨A, B, rfl, rfl⟩ := h; simp; lia
theorem ObjAt.get {mem : List Int} {a : Nat} {ws : List Int} (h : ObjAt mem a ws) {i : Nat} (hi : i < ws.length) : mem[a + 1 + i]? = some ws[i] := by
  obtain ⟨A, B, rfl, rfl⟩ := h
  rw [List.append_assoc, List.getElem?_append_right (by lia), show A.length + 1 + i - A.length = i + 1 by lia]
  simp [List.getElem?_append_left, hi]
theorem ObjAt.slice {mem : List Int} {a : Nat} {ws : List Int} (h : ObjAt mem a ws) : (mem.take (a + 1 + ws.length)).drop (a + 1) = ws := by
  obtain ⟨A, B, rfl, rfl⟩ := h
  have e : A ++ ((ws.length : Int) :: ws) ++ B = (A ++ [(ws.length : Int)]) ++ (ws ++ B) := by simp
  rw [e, List.take_append, List.drop_append]
  simp
section
variable {fuel n : Nat}
theorem c_is_pointer (w : Int) : callD tab fuel (n + 1) 0 [.int w] = some (.bool (decide (w % 2 = 1))) := by
  refine call_run (fd := fd_is_pointer) rfl rfl rfl rfl ?_
  simp [fd_is_pointer, startStore, dSs_cons, dS_ret, q_int, q_var, q_mod, den_cmp, Store.get, o_mod, cmp_eq_int, Int.fmod_eq_emod]
theorem c_pointer_to (a : Int) : callD tab fuel (n + 1) 1 [.int a] = some (.int (2 * a + 1)) := by
  refine call_run (fd := fd_pointer_to) rfl rfl rfl rfl ?_
  simp [fd_pointer_to, startStore, dSs_cons, dS_ret, q_int, q_var, q_add, q_mulc, Store.get, o_mulc, o_add]
theorem c_address_of (w : Int) : callD tab fuel (n + 1) 2 [.int w] = some (.int (w / 2)) := by
  refine call_run (fd := fd_address_of) rfl rfl rfl rfl ?_
  simp [fd_address_of, startStore, dSs_cons, dS_ret, q_var, q_divc, Store.get, o_divc, Int.fdiv_eq_ediv]
theorem c_fields_of {mem : List Int} {a : Nat} {ws : List Int} (h : ObjAt mem a ws) (hl : mem.length ≤ 900) : callD tab fuel (n + 1) 6 [iL mem, .int a] = some (iL ws) := by
  refine call_run (fd := fd_fields_of) rfl rfl rfl rfl ?_
  have hf := h.fits
  simp only [fd_fields_of, startStore, dSs_nil, dSs_cons, dS_ret, q_int, q_var, q_add, den_idx, q_slLH, Store.get, List.map_cons, List.map_nil, Nat.sub_self, List.replicate_zero, List.append_nil, List.getElem?_cons_zero, List.getElem?_cons_succ, Option.join_some, Option.bind_some, o_add, iL_idx h.head (by lia)]
  rw [iL_slLH (by unfold lim; lia)]
  simp only [Option.bind_some]
  rw [show ((a : Int) + 1 + (ws.length : Int)) = ((a + 1 + ws.length : Nat) : Int) by lia, show ((a : Int) + 1) = ((a + 1 : Nat) : Int) by lia, clamp_nat, clamp_nat, Nat.min_eq_left (by lia), Nat.min_eq_left (by lia), h.slice]
theorem word_ptr (p : Nat → Nat) (k : Nat) : (Cell.word p (.ptr k)) % 2 = 1 ∧ (Cell.word p (.ptr k)) / 2 = p k := by
  constructor
  · show (2 * (p k : Int) + 1) % 2 = 1; lia
  · show (2 * (p k : Int) + 1) / 2 = p k; lia
noncomputable def pls (p : Nat → Nat) (met : List Nat) : List Int := met.map fun n => (p n : Int)
noncomputable def InjOn (p : Nat → Nat) (S : Nat → Prop) : Prop := ∀ a b, S a → S b → p a = p b → a = b
theorem mem_pls {p : Nat → Nat} {S : Nat → Prop} (hi : InjOn p S) {met : List Nat} (hm : ∀ k ∈ met, S k) {k : Nat} (hk : S k) : (p k : Int) ∈ pls p met ↔ k ∈ met := by
  unfold pls
  constructor
  · intro h
    obtain ⟨j, hj, e⟩ := List.mem_map.mp h
    have : j = k := hi j k (hm j hj) hk (by lia)
    exact this ▸ hj
  · intro h; exact List.mem_map.mpr ⟨k, h, rfl⟩
noncomputable def cellIn (S : Nat → Prop) : Cell → Prop
  | .ptr k => S k
  | .val v => v % 2 = 0
theorem addC_sub {S : Nat → Prop} {met : List Nat} (hm : ∀ k ∈ met, S k) {c : Cell} (hc : cellIn S c) : ∀ k ∈ addC met c, S k := by
  cases c with
  | val v => exact hm
  | ptr j =>
    intro k hk
    simp only [addC] at hk
    split at hk
    · exact hm k hk
    · rcases List.mem_append.mp hk with h | h
      · exact hm k h
      · rw [List.mem_singleton.mp h]; exact hc
theorem addCs_sub {S : Nat → Prop} : ∀ {cs : List Cell} {met : List Nat}, (∀ k ∈ met, S k) → (∀ c ∈ cs, cellIn S c) → ∀ k ∈ addCs met cs, S k
  | [], _, hm, _ => hm
  | c :: cs, _, hm, hc => addCs_sub (cs := cs) (addC_sub hm (hc c (.head _))) fun d hd => hc d (.tail _ hd)
theorem addC_len (met : List Nat) (c : Cell) : (addC met c).length ≤ met.length + 1 := by
  cases c with
  | val v => simp [addC]
  | ptr j => simp only [addC]; split <;> simp
theorem addCs_len : ∀ (cs : List Cell) (met : List Nat), (addCs met cs).length ≤ met.length + cs.length
  | [], _ => by simp [addCs]
  | c :: cs, met => by
    have h1 := addC_len met c
    have h2 := addCs_len cs (addC met c)
    simp only [addCs, List.foldl_cons, List.length_cons] at h2 ⊢
    lia
theorem addC_grow (met : List Nat) (c : Cell) : met.length ≤ (addC met c).length := by
  cases c with
  | val v => exact Nat.le_refl _
  | ptr j => simp only [addC]; split <;> simp
theorem addCs_grow : ∀ (cs : List Cell) (met : List Nat), met.length ≤ (addCs met cs).length
  | [], _ => Nat.le_refl _
  | c :: cs, met => Nat.le_trans (addC_grow met c) (addCs_grow cs (addC met c))
noncomputable def bodyR : PSs := .cons (.ite (.and (.ex (.call 0 (.cons (.var 3) .nil))) (.ex (.cmp .notin (.call 2 (.cons (.var 3) .nil)) (.var 2)))) (.cons (.append 2 (.call 2 (.cons (.var 3) .nil))) .nil) .nil) .nil
theorem bodyR_step {p : Nat → Nat} {S : Nat → Prop} (hi : InjOn p S) {met : List Nat} (hm : ∀ k ∈ met, S k) {c : Cell} (hc : cellIn S c) (hl : met.length < 1000) {m r pl : Option PyData} :
    denSs (callD tab fuel (n + 1)) fuel bodyR [m, r, some (iL (pls p met)), some (.int (c.word p)), pl] = some (.next [m, r, some (iL (pls p (addC met c))), some (.int (c.word p)), pl]) := by
  have hlen : (pls p met).length < lim := by unfold pls lim; simp; lia
  cases c with
  | val v =>
    have hv : ¬ (v % 2 = 1) := by have : v % 2 = 0 := hc; lia
    simp [bodyR, dSs_nil, dSs_cons, dS_append, dS_ite, dC_ex, dC_and, q_var, den_cmp, q_call, dEs_nil, dEs_cons, Store.get, c_is_pointer, Cell.word, addC, hv]
  | ptr k =>
    obtain ⟨h1, h2⟩ := word_ptr p k
    have hk : ((p k : Int) ∈ pls p met) ↔ k ∈ met := mem_pls hi hm hc
    by_cases hkm : k ∈ met
    · have : (p k : Int) ∈ pls p met := hk.mpr hkm
      simp [bodyR, dSs_nil, dSs_cons, dS_append, dS_ite, dC_ex, dC_and, q_var, den_cmp, q_call, dEs_nil, dEs_cons, Store.get, c_is_pointer, c_address_of, h1, h2, cmp_notin, this, addC, hkm]
    · have : ¬ (p k : Int) ∈ pls p met := fun q => hkm (hk.mp q)
      have e : pls p (met ++ [k]) = pls p met ++ [(p k : Int)] := by simp [pls]
      simp [bodyR, dSs_nil, dSs_cons, dS_append, dS_ite, dC_ex, dC_and, q_var, den_cmp, q_call, dEs_nil, dEs_cons, Store.get, c_is_pointer, c_address_of, h1, h2, cmp_notin, this, addC, hkm, e, iL_append hlen]
theorem loopR {p : Nat → Nat} {S : Nat → Prop} (hi : InjOn p S) {m r pl : Option PyData} : ∀ (cs : List Cell) (met : List Nat) (w : Option PyData), (∀ k ∈ met, S k) → (∀ c ∈ cs, cellIn S c) → met.length + cs.length ≤ 1000 →
    ∃ w', loopD (denSs (callD tab fuel (n + 1)) fuel bodyR) 3 ((words p cs).map .int) [m, r, some (iL (pls p met)), w, pl] = some (.next [m, r, some (iL (pls p (addCs met cs))), w', pl])
  | [], met, w, _, _, _ => ⟨w, rfl⟩
  | c :: cs, met, w, hm, hc, hl => by
    have h1 := addC_len met c
    simp only [List.length_cons] at hl
    obtain ⟨w', h⟩ := loopR hi cs (addC met c) (some (.int (c.word p))) (addC_sub hm (hc c (.head _))) (fun d hd => hc d (.tail _ hd)) (by lia)
    refine ⟨w', ?_⟩
    show loopD _ 3 (PyData.int (c.word p) :: (words p cs).map .int) _ = _
    rw [loopD]
    have := bodyR_step (fuel := fuel) (n := n) hi hm (hc c (.head _)) (by lia) (m := m) (r := r) (pl := pl)
    simp only [List.set_cons_succ, List.set_cons_zero]
    rw [this]
    exact h
structure Holds (mem : List Int) (p : Nat → Nat) (R : Nat → List Cell) (S : Nat → Prop) : Prop where
  inj : InjOn p S
  obj : ∀ k, S k → ObjAt mem (p k) (words p (R k))
  cells : ∀ k, S k → ∀ c ∈ R k, cellIn S c
  small : mem.length ≤ 900
noncomputable def termN (R : Nat → List Cell) : Nat → Nat → List Nat → Prop
  | 0, p, met => met[p]? = none
  | f + 1, p, met => match met[p]? with
    | some n => termN R f (p + 1) (addCs met (R n))
    | none => True
theorem addC_nodup {met : List Nat} (h : met.Nodup) (c : Cell) : (addC met c).Nodup := by
  cases c with
  | val v => exact h
  | ptr k =>
    simp only [addC]; split
    · exact h
    · rename_i hk
      rw [List.nodup_append]
      refine ⟨h, by simp, fun a ha b hb => ?_⟩
      rw [List.mem_singleton.mp hb]
      exact fun q => hk (q ▸ ha)
theorem addCs_nodup : ∀ (cs : List Cell) {met : List Nat}, met.Nodup → (addCs met cs).Nodup
  | [], _, h => h
  | c :: cs, _, h => addCs_nodup cs (addC_nodup h c)
theorem nodup_bound : ∀ {b : Nat} {l : List Nat}, l.Nodup → (∀ k ∈ l, k < b) → l.length ≤ b
  | 0, l, _, hb => by
    cases l with
    | nil => exact Nat.le_refl _
    | cons k l => exact absurd (hb k (.head _)) (Nat.not_lt_zero _)
  | b + 1, l, h, hb => by
    have h1 : (l.filter (fun k => k != b)).length ≤ b := by
      refine nodup_bound (h.sublist (List.filter_sublist ..)) fun k hk => ?_
      obtain ⟨h1, h2⟩ := List.mem_filter.mp hk
      have := hb k h1
      have h3 : k ≠ b := by simpa using h2
      lia
    have h2 : l.length ≤ (l.filter (fun k => k != b)).length + 1 := by
      clear h1 hb
      induction l with
      | nil => simp
      | cons a l ih =>
        rw [List.nodup_cons] at h
        by_cases ha : a = b
        · subst ha
          have : l.filter (fun k => k != a) = l := List.filter_eq_self.mpr fun k hk => by
            have : k ≠ a := fun q => h.1 (q ▸ hk)
            simpa using this
          simp [List.filter_cons, this]
        · have := ih h.2
          simp [List.filter_cons, ha]
          lia
    lia
theorem term_of {R : Nat → List Cell} {S : Nat → Prop} (hS : ∀ k, S k → k < 8) (hR : ∀ k, S k → ∀ c ∈ R k, cellIn S c) : ∀ (f p : Nat) (met : List Nat), met.Nodup → (∀ k ∈ met, S k) → 8 ≤ p + f → termN R f p met
  | 0, p, met, hn, hm, hp => by
    have := nodup_bound hn fun k hk => hS k (hm k hk)
    show met[p]? = none
    exact List.getElem?_eq_none (by lia)
  | f + 1, p, met, hn, hm, hp => by
    unfold termN
    split
    · rename_i k hk
      have hkS := hm k (List.mem_of_getElem? hk)
      exact term_of hS hR f (p + 1) _ (addCs_nodup _ hn) (addCs_sub hm (hR k hkS)) (by lia)
    · trivial
theorem close_sub {R : Nat → List Cell} {S : Nat → Prop} (hR : ∀ k, S k → ∀ c ∈ R k, cellIn S c) : ∀ (f p : Nat) (met : List Nat), (∀ k ∈ met, S k) → ∀ k ∈ closeN R f p met, S k
  | 0, _, _, hm => hm
  | f + 1, p, met, hm => by
    unfold closeN
    split
    · rename_i k hk
      exact close_sub hR f (p + 1) _ (addCs_sub hm (hR k (hm k (List.mem_of_getElem? hk))))
    · exact hm
theorem close_nodup {R : Nat → List Cell} : ∀ (f p : Nat) (met : List Nat), met.Nodup → (closeN R f p met).Nodup
  | 0, _, _, hm => hm
  | f + 1, p, met, hm => by
    unfold closeN
    split
    · exact close_nodup f (p + 1) _ (addCs_nodup _ hm)
    · exact hm
noncomputable def condR : PC := .ex (.cmp .lt (.var 4) (.len (.var 2)))
noncomputable def wbodyR : PSs := .cons (.forL 3 (.call 6 (.cons (.var 0) (.cons (.idx (.var 2) (.var 4)) .nil))) bodyR) (.cons (.assign 4 (.add (.var 4) (.int 1))) .nil)
theorem whileR {mem : List Int} {p : Nat → Nat} {R : Nat → List Cell} {S : Nat → Prop} (H : Holds mem p R S) (hS : ∀ k, S k → k < 8) {r : Option PyData} : ∀ (f pl : Nat) (met : List Nat) (w : Option PyData) (g : Nat), f < g → met.Nodup → (∀ k ∈ met, S k) → termN R f pl met → pl ≤ met.length →
    ∃ w' pl', whileD (denC (callD tab fuel (n + 1)) condR) (denSs (callD tab fuel (n + 1)) fuel wbodyR) g [some (iL mem), r, some (iL (pls p met)), w, some (.int (pl : Int))] = some (.next [some (iL mem), r, some (iL (pls p (closeN R f pl met))), w', pl'])
  | f, pl, met, w, 0, hg, _, _, _, _ => by lia
  | f, pl, met, w, g + 1, hg, hn, hm, ht, hpl => by
    have hlen : met.length ≤ 8 := nodup_bound hn fun k hk => hS k (hm k hk)
    have hpl8 : (pls p met).length ≤ 8 := by simpa [pls] using hlen
    have hcond : denC (callD tab fuel (n + 1)) condR [some (iL mem), r, some (iL (pls p met)), w, some (.int (pl : Int))] = some (decide (pl < met.length)) := by
      have : (pls p met).length = met.length := by simp [pls]
      simp [condR, dC_ex, q_var, den_cmp, q_len, Store.get, iL_len (show (pls p met).length ≤ lim by unfold lim; lia), o_lt, this]
    rw [whileD, hcond]
    by_cases hlt : pl < met.length
    · have hget : met[pl]? = some met[pl] := List.getElem?_eq_getElem hlt
      cases f with
      | zero => unfold termN at ht; rw [hget] at ht; cases ht
      | succ f =>
        unfold termN at ht
        rw [hget] at ht
        have hkS := hm met[pl] (List.getElem_mem hlt)
        have hidx : (pls p met)[pl]? = some (p met[pl] : Int) := by simp [pls, hget]
        have hcl : (R met[pl]).length ≤ 1000 := by have := (H.obj _ hkS).fits; rw [words_length] at this; have := H.small; lia
        have hfl := c_fields_of (fuel := fuel) (n := n) (H.obj _ hkS) H.small
        have hcl2 : met.length + (R met[pl]).length ≤ 1000 := by
          have := (H.obj _ hkS).fits; rw [words_length] at this; have := H.small; lia
        obtain ⟨w', hloop⟩ := loopR (fuel := fuel) (n := n) H.inj (m := some (iL mem)) (r := r) (pl := some (.int (pl : Int))) (R met[pl]) met w hm (H.cells _ hkS) hcl2
        have hbody : denSs (callD tab fuel (n + 1)) fuel wbodyR [some (iL mem), r, some (iL (pls p met)), w, some (.int (pl : Int))] = some (.next [some (iL mem), r, some (iL (pls p (addCs met (R met[pl])))), w', some (.int ((pl + 1 : Nat) : Int))]) := by
          simp only [wbodyR, dSs_nil, dSs_cons, dS_assign, dS_forL, q_int, q_var, q_add, den_idx, q_call, dEs_nil, dEs_cons, Store.get, List.getElem?_cons_zero, List.getElem?_cons_succ, Option.join_some, Option.bind_some, iL_idx hidx (by lia), hfl]
          rw [iL_items (by rw [words_length]; unfold lim; lia)]
          simp only [Option.bind_some]
          rw [hloop]
          rfl
        rw [decide_eq_true hlt]
        simp only
        rw [hbody]
        simp only
        have hgrow := addCs_grow (R met[pl]) met
        obtain ⟨w2, pl2, h⟩ := whileR H hS f (pl + 1) (addCs met (R met[pl])) w' g (by lia) (addCs_nodup _ hn) (addCs_sub hm (H.cells _ hkS)) ht (by lia)
        refine ⟨w2, pl2, ?_⟩
        rw [h]
        have : closeN R (f + 1) pl met = closeN R f (pl + 1) (addCs met (R met[pl])) := by rw [closeN, hget]
        rw [this]
    · rw [decide_eq_false hlt]
      refine ⟨w, some (.int (pl : Int)), ?_⟩
      have : closeN R f pl met = met := by
        cases f with
        | zero => rfl
        | succ f => rw [closeN, List.getElem?_eq_none (by lia)]
      rw [this]
end
end Mine

namespace Mine
open PySem
set_option autoImplicit false
set_option maxRecDepth 100000
section
variable {n : Nat}
noncomputable abbrev FU : Nat := 64
theorem live_sub {R : Nat → List Cell} {S : Nat → Prop} {roots : List Cell} (hR : ∀ k, S k → ∀ c ∈ R k, cellIn S c) (hr : ∀ c ∈ roots, cellIn S c) : ∀ k ∈ liveN R roots, S k :=
  close_sub hR 8 0 _ (addCs_sub (fun _ h => (nomatch h)) hr)
theorem live_nodup (R : Nat → List Cell) (roots : List Cell) : (liveN R roots).Nodup := close_nodup 8 0 _ (addCs_nodup _ List.nodup_nil)
theorem c_reach {mem : List Int} {p : Nat → Nat} {R : Nat → List Cell} {S : Nat → Prop} {roots : List Cell} (H : Holds mem p R S) (hS : ∀ k, S k → k < 8) (hr : ∀ c ∈ roots, cellIn S c) (hl : roots.length ≤ 100) :
    callD tab FU (n + 2) 8 [iL mem, iL (words p roots)] = some (iL (pls p (liveN R roots))) := by
  refine call_run (fd := fd_reachable) rfl rfl rfl rfl ?_
  have e0 : iL (pls p []) = .list [] := rfl
  have h1 : denSs (callD tab FU (n + 1)) FU fd_reachable.body (startStore fd_reachable [iL mem, iL (words p roots)]) = denSs (callD tab FU (n + 1)) FU (.cons (.assign 2 (.list .nil)) (.cons (.forL 3 (.var 1) bodyR) (.cons (.assign 4 (.int 0)) (.cons (.while condR wbodyR) (.cons (.ret (.var 2)) .nil))))) [some (iL mem), some (iL (words p roots)), none, none, none] := rfl
  rw [h1]
  obtain ⟨w1, hloop⟩ := loopR (fuel := FU) (n := n) H.inj (m := some (iL mem)) (r := some (iL (words p roots))) (pl := none) roots [] none (fun _ h => (nomatch h)) hr (by simp; lia)
  have hnd := addCs_nodup roots (met := []) List.nodup_nil
  have hsub := addCs_sub (S := S) (cs := roots) (met := []) (fun _ h => (nomatch h)) hr
  have ht := term_of hS H.cells 8 0 _ hnd hsub (by lia)
  obtain ⟨w2, pl2, hw⟩ := whileR (fuel := FU) (n := n) H hS (r := some (iL (words p roots))) 8 0 (addCs [] roots) w1 FU (by decide) hnd hsub ht (by lia)
  have hit : itemsOf false (iL (words p roots)) = some ((words p roots).map .int) := iL_items (by rw [words_length]; unfold lim; lia)
  rw [e0] at hloop
  simp only [dSs_nil, dSs_cons, dS_assign, dS_forL, dS_while, dS_ret, q_int, q_var, q_list, dEs_nil, Store.get, List.getElem?_cons_zero, List.getElem?_cons_succ, Option.join_some, Option.bind_some, hit, hloop, List.set_cons_succ, List.set_cons_zero, List.length_nil, Nat.zero_le, if_true]
  rw [show ((0 : Nat) : Int) = (0 : Int) from rfl] at hw
  rw [hw]
  simp only [List.getElem?_cons_zero, List.getElem?_cons_succ, Option.join_some, Option.bind_some]
  rfl
theorem addC_mem (met : List Nat) (c : Cell) {k : Nat} (h : k ∈ met) : k ∈ addC met c := by
  cases c with
  | val v => exact h
  | ptr j =>
    simp only [addC]; split
    · exact h
    · exact List.mem_append_left _ h
theorem addCs_mem : ∀ (cs : List Cell) (met : List Nat) {k : Nat}, k ∈ met → k ∈ addCs met cs
  | [], _, _, h => h
  | c :: cs, met, _, h => addCs_mem cs _ (addC_mem met c h)
theorem addC_new (met : List Nat) (k : Nat) : k ∈ addC met (.ptr k) := by
  simp only [addC]; split
  · assumption
  · simp
theorem addCs_new : ∀ (cs : List Cell) (met : List Nat) {k : Nat}, Cell.ptr k ∈ cs → k ∈ addCs met cs
  | c :: cs, met, k, h => by
    rcases List.mem_cons.mp h with rfl | h
    · exact addCs_mem cs _ (addC_new met k)
    · exact addCs_new cs _ h
theorem addC_pre (met : List Nat) (c : Cell) : met <+: addC met c := by
  cases c with
  | val v => exact List.prefix_rfl
  | ptr j =>
    simp only [addC]; split
    · exact List.prefix_rfl
    · exact List.prefix_append ..
theorem addCs_pre : ∀ (cs : List Cell) (met : List Nat), met <+: addCs met cs
  | [], _ => List.prefix_rfl
  | c :: cs, met => (addC_pre met c).trans (addCs_pre cs _)
theorem close_pre {R : Nat → List Cell} : ∀ (f p : Nat) (met : List Nat), met <+: closeN R f p met
  | 0, _, _ => List.prefix_rfl
  | f + 1, p, met => by
    unfold closeN; split
    · exact (addCs_pre _ _).trans (close_pre f (p + 1) _)
    · exact List.prefix_rfl
theorem prefix_get {l l' : List Nat} (h : l <+: l') {i : Nat} {k : Nat} (e : l[i]? = some k) : l'[i]? = some k := by
  obtain ⟨t, rfl⟩ := h
  rw [List.getElem?_append_left (List.getElem?_eq_some_iff.mp e).1]; exact e
theorem close_closed {R : Nat → List Cell} : ∀ (f p : Nat) (met : List Nat), termN R f p met → (∀ i k, i < p → met[i]? = some k → ∀ j, Cell.ptr j ∈ R k → j ∈ met) → ∀ k ∈ closeN R f p met, ∀ j, Cell.ptr j ∈ R k → j ∈ closeN R f p met
  | 0, p, met, ht, hp => by
    intro k hk j hj
    obtain ⟨i, hi⟩ := List.getElem?_of_mem hk
    have ht' : met[p]? = none := ht
    have hl : i < met.length := (List.getElem?_eq_some_iff.mp hi).1
    have : met.length ≤ p := List.getElem?_eq_none_iff.mp ht'
    exact hp i k (by lia) hi j hj
  | f + 1, p, met, ht, hp => by
    unfold termN at ht
    unfold closeN
    cases e : met[p]? with
    | some n =>
      rw [e] at ht
      simp only
      refine close_closed f (p + 1) _ ht fun i k hi hk j hj => ?_
      by_cases hip : i < p
      · have hpl : p < met.length := (List.getElem?_eq_some_iff.mp e).1
        have hk' : met[i]? = some k := by
          obtain ⟨t, ht⟩ := addCs_pre (R n) met
          rw [← ht, List.getElem?_append_left (by lia)] at hk; exact hk
        exact addCs_mem _ _ (hp i k hip hk' j hj)
      · have : i = p := by lia
        subst this
        have := prefix_get (addCs_pre (R n) met) e
        rw [this] at hk; cases hk
        exact addCs_new _ _ hj
    | none =>
      simp only
      intro k hk j hj
      obtain ⟨i, hi⟩ := List.getElem?_of_mem hk
      have hl : i < met.length := (List.getElem?_eq_some_iff.mp hi).1
      have : met.length ≤ p := List.getElem?_eq_none_iff.mp e
      exact hp i k (by lia) hi j hj
theorem live_roots {R : Nat → List Cell} {roots : List Cell} {k : Nat} (h : Cell.ptr k ∈ roots) : k ∈ liveN R roots := (close_pre 8 0 _).subset (addCs_new roots [] h)
theorem live_closed {R : Nat → List Cell} {S : Nat → Prop} (hS : ∀ k, S k → k < 8) {roots : List Cell} (hR : ∀ k, S k → ∀ c ∈ R k, cellIn S c) (hr : ∀ c ∈ roots, cellIn S c) : ∀ k ∈ liveN R roots, ∀ j, Cell.ptr j ∈ R k → j ∈ liveN R roots :=
  close_closed 8 0 _ (term_of hS hR 8 0 _ (addCs_nodup _ List.nodup_nil) (addCs_sub (fun _ h => (nomatch h)) hr) (by lia)) (fun i _ h => by lia)
noncomputable def rk (L : List Nat) (k : Nat) : Nat := L.idxOf k
noncomputable def eltS : PE := .ite (.ex (.call 0 (.cons (.var 0) .nil))) (.call 1 (.cons (.idx (.var 1) (.call 2 (.cons (.var 0) .nil))) .nil)) (.var 0)
theorem compS {p q : Nat → Nat} {num : List Int} {L : List Nat} (hn : ∀ k ∈ L, num[p k]? = some (q k : Int)) (hp : ∀ k ∈ L, p k < 1000) : ∀ (cs : List Cell), (∀ c ∈ cs, c.ok) → (∀ k, Cell.ptr k ∈ cs → k ∈ L) →
    compD (fun _ => some true) (fun d => denE (callD tab FU (n + 1)) eltS [some d, some (iL num)]) ((words p cs).map .int) = some ((words q cs).map .int)
  | [], _, _ => rfl
  | c :: cs, ho, hL => by
    have ih := compS hn hp cs (fun d hd => ho d (.tail _ hd)) (fun k hk => hL k (.tail _ hk))
    have hc : denE (callD tab FU (n + 1)) eltS [some (.int (c.word p)), some (iL num)] = some (.int (c.word q)) := by
      cases c with
      | val v =>
        have hv : ¬ (v % 2 = 1) := by have : v % 2 = 0 := ho (.val v) (.head _); lia
        simp [eltS, q_var, q_ite, den_idx, q_call, dC_ex, dEs_nil, dEs_cons, Store.get, c_is_pointer, Cell.word, hv]
      | ptr k =>
        obtain ⟨h1, h2⟩ := word_ptr p k
        have hk := hL k (.head _)
        have := hp k hk
        simp only [eltS, q_var, q_ite, den_idx, q_call, dC_ex, dEs_nil, dEs_cons, Store.get, List.getElem?_cons_zero, List.getElem?_cons_succ, Option.join_some, Option.bind_some, c_is_pointer, h1, decide_true, if_true, c_address_of, h2, iL_idx (hn k hk) (by lia), c_pointer_to]
        rfl
    show compD _ _ (PyData.int (c.word p) :: (words p cs).map .int) = _
    rw [compD]
    simp only [PyData.canLay0, if_true, hc, ih]
    rfl
theorem set_get_ne {num : List Int} {a b : Nat} {v : Int} (h : a ≠ b) : (num.set a v)[b]? = num[b]? := List.getElem?_set_ne h
theorem loopNum {p : Nat → Nat} {S : Nat → Prop} (hi : InjOn p S) {L : List Nat} (hL8 : L.length ≤ 8) (hL : ∀ k ∈ L, S k) (hnd : L.Nodup) {m r s5 s6 s7 : Option PyData} : ∀ (t k : Nat) (num : List Int) (x : Option PyData), k + t = L.length → (∀ j ∈ L, p j < num.length) → num.length ≤ 900 → (∀ i, i < k → ∀ j, L[i]? = some j → num[p j]? = some (i : Int)) →
    ∃ num' x', loopD (denSs (callD tab FU (n + 1)) FU (.cons (.store 3 (.idx (.var 2) (.var 4)) (.var 4)) .nil)) 4 (((List.range t).map (fun i => k + i)).map fun (i : Nat) => PyData.int (i : Int)) [m, r, some (iL (pls p L)), some (iL num), x, s5, s6, s7] = some (.next [m, r, some (iL (pls p L)), some (iL num'), x', s5, s6, s7]) ∧ num'.length = num.length ∧ ∀ (i j : Nat), L[i]? = some j → num'[p j]? = some (i : Int)
  | 0, k, num, x, hk, _, _, h => ⟨num, x, rfl, rfl, fun i j e => h i (by have := (List.getElem?_eq_some_iff.mp e).1; lia) j e⟩
  | t + 1, k, num, x, hk, hp, hl, h => by
    have hkl : k < L.length := by lia
    have hLk : L[k]? = some L[k] := List.getElem?_eq_getElem hkl
    have hidx : (pls p L)[k]? = some (p L[k] : Int) := by simp [pls, hLk]
    have hpk := hp L[k] (List.getElem_mem hkl)
    obtain ⟨num', x', e1, e2, e3⟩ := loopNum hi hL8 hL hnd (m := m) (r := r) (s5 := s5) (s6 := s6) (s7 := s7) t (k + 1) (num.set (p L[k]) (k : Int)) (some (.int (k : Int))) (by lia) (by simpa using hp) (by simpa using hl) (fun i hik j hj => by
      by_cases hik' : i = k
      · subst hik'
        rw [hLk] at hj; cases hj
        rw [List.getElem?_set_self hpk]
      · have hij : p L[k] ≠ p j := fun q => by
          have := hi _ _ (hL _ (List.getElem_mem hkl)) (hL j (List.mem_of_getElem? hj)) q
          rw [← this, ← hLk] at hj
          have hil : i < L.length := by lia
          exact hik' ((List.getElem?_inj hil hnd).mp hj)
        rw [set_get_ne hij]
        exact h i (by lia) j hj)
    refine ⟨num', x', ?_, by simpa using e2, e3⟩
    have hr : ((List.range (t + 1)).map (fun i => k + i)).map (fun (i : Nat) => PyData.int (i : Int)) = PyData.int (k : Int) :: ((List.range t).map (fun i => (k + 1) + i)).map (fun (i : Nat) => PyData.int (i : Int)) := by
      rw [List.range_succ_eq_map]
      simp only [List.map_cons, List.map_map, Nat.add_zero]
      congr 1
      apply List.map_congr_left
      intro i _
      simp only [Function.comp]
      congr 2; lia
    rw [hr, loopD]
    have hbody : denSs (callD tab FU (n + 1)) FU (.cons (.store 3 (.idx (.var 2) (.var 4)) (.var 4)) .nil) [m, r, some (iL (pls p L)), some (iL num), some (.int (k : Int)), s5, s6, s7] = some (.next [m, r, some (iL (pls p L)), some (iL (num.set (p L[k]) (k : Int))), some (.int (k : Int)), s5, s6, s7]) := by
      simp only [dSs_nil, dSs_cons, dS_store, q_var, den_idx, Store.get, List.getElem?_cons_zero, List.getElem?_cons_succ, Option.join_some, Option.bind_some, iL_idx hidx (by lia), iL_set hpk (by unfold lim; lia)]
      rfl
    simp only [List.set_cons_succ, List.set_cons_zero]
    rw [hbody]
    exact e1
theorem ok_of_cellIn {S : Nat → Prop} {c : Cell} (h : cellIn S c) : c.ok := by
  cases c with
  | ptr k => trivial
  | val v => exact h
noncomputable def shown (q : Nat → Nat) (R : Nat → List Cell) (L : List Nat) : List (List Int) := L.map fun k => words q (R k)
theorem loopShown {mem num : List Int} {p q : Nat → Nat} {R : Nat → List Cell} {S : Nat → Prop} (H : Holds mem p R S) {L : List Nat} (hL : ∀ k ∈ L, S k) (hcl : ∀ k ∈ L, ∀ j, Cell.ptr j ∈ R k → j ∈ L) (hn : ∀ k ∈ L, num[p k]? = some (q k : Int)) {r o4 o5 : Option PyData} {o2 : Option PyData} : ∀ (ks : List Nat) (acc : List (List Int)) (x : Option PyData), (∀ k ∈ ks, k ∈ L) → acc.length + ks.length ≤ 1000 →
    ∃ x', loopD (denSs (callD tab FU (n + 1)) FU (.cons (.append 6 (.comp (Str.ofString "w") [3] false (.call 6 (.cons (.var 0) (.cons (.var 7) .nil))) .tt eltS)) .nil)) 7 ((pls p ks).map .int) [some (iL mem), r, o2, some (iL num), o4, o5, some (iLL acc), x] = some (.next [some (iL mem), r, o2, some (iL num), o4, o5, some (iLL (acc ++ shown q R ks)), x'])
  | [], acc, x, _, _ => ⟨x, by simp [shown, pls, o_l0]⟩
  | k :: ks, acc, x, hk, hl => by
    simp only [List.length_cons] at hl
    have hkL := hk k (.head _)
    have hkS := hL k hkL
    obtain ⟨x', ih⟩ := loopShown H hL hcl hn ks (acc ++ [words q (R k)]) (some (.int (p k : Int))) (fun j hj => hk j (.tail _ hj)) (by simp; lia) (r := r) (o4 := o4) (o5 := o5) (o2 := o2)
    refine ⟨x', ?_⟩
    show loopD _ 7 (PyData.int (p k : Int) :: (pls p ks).map .int) _ = _
    rw [loopD]
    have hp : ∀ k ∈ L, p k < 1000 := fun j hj => by have := (H.obj j (hL j hj)).fits; have := H.small; lia
    have hcomp := compS (n := n) hn hp (R k) (fun c hc => ok_of_cellIn (H.cells k hkS c hc)) (fun j hj => hcl k hkL j hj)
    have hfl := c_fields_of (fuel := FU) (n := n) (H.obj k hkS) H.small
    have hwl : (words p (R k)).length ≤ lim := by have := (H.obj k hkS).fits; have := H.small; unfold lim; lia
    have hbody : denSs (callD tab FU (n + 1)) FU (.cons (.append 6 (.comp (Str.ofString "w") [3] false (.call 6 (.cons (.var 0) (.cons (.var 7) .nil))) .tt eltS)) .nil) [some (iL mem), r, o2, some (iL num), o4, o5, some (iLL acc), some (.int (p k : Int))] = some (.next [some (iL mem), r, o2, some (iL num), o4, o5, some (iLL (acc ++ [words q (R k)])), some (.int (p k : Int))]) := by
      simp only [dSs_nil, dSs_cons, dS_append, q_var, q_call, den_comp, dEs_nil, dEs_cons, dC_tt, Store.get, List.getElem?_cons_zero, List.getElem?_cons_succ, Option.join_some, Option.bind_some, hfl, iL_items hwl, List.map_cons, List.map_nil, hcomp, Option.map_some]
      rw [show PyData.list ((words q (R k)).map .int) = iL (words q (R k)) from rfl, iLL_append (by unfold lim; lia)]
      rfl
    simp only [List.set_cons_succ, List.set_cons_zero]
    rw [hbody]
    simp only
    rw [ih]
    simp [shown]
theorem rk_get {L : List Nat} (hnd : L.Nodup) {i k : Nat} (h : L[i]? = some k) : rk L k = i := by
  obtain ⟨hl, e⟩ := List.getElem?_eq_some_iff.mp h
  unfold rk
  rw [← e]; exact hnd.idxOf_getElem i hl
theorem c_shape {mem : List Int} {p : Nat → Nat} {R : Nat → List Cell} {S : Nat → Prop} {roots : List Cell} (H : Holds mem p R S) (hS : ∀ k, S k → k < 8) (hr : ∀ c ∈ roots, cellIn S c) (hl : roots.length ≤ 100) :
    callD tab FU (n + 3) 14 [iL mem, iL (words p roots)] = some (.tuple [iL (words (rk (liveN R roots)) roots), iLL (shown (rk (liveN R roots)) R (liveN R roots))]) := by
  refine call_run (fd := fd_shape_of) rfl rfl rfl rfl ?_
  have hR := c_reach (n := n) H hS hr hl
  have hLS : ∀ k ∈ liveN R roots, S k := live_sub H.cells hr
  have hnd := live_nodup R roots
  have hcl : ∀ k ∈ liveN R roots, ∀ j, Cell.ptr j ∈ R k → j ∈ liveN R roots := live_closed hS H.cells hr
  have hroot : ∀ k, Cell.ptr k ∈ roots → k ∈ liveN R roots := fun k h => live_roots h
  generalize hLe : liveN R roots = L at hR hLS hnd hcl hroot ⊢
  have hL8 : L.length ≤ 8 := nodup_bound hnd fun k hk => hS k (hLS k hk)
  have hml := H.small
  have hpl : ∀ j ∈ L, p j < (List.replicate mem.length (-1 : Int)).length := fun j hj => by have := (H.obj j (hLS j hj)).fits; simp; lia
  obtain ⟨num, x4, h1, h2, h3⟩ := loopNum (n := n + 1) H.inj hL8 hLS hnd (m := some (iL mem)) (r := some (iL (words p roots))) (s5 := none) (s6 := none) (s7 := none) L.length 0 (List.replicate mem.length (-1)) none (by lia) hpl (by simp; lia) (fun i hi => by lia)
  have hn : ∀ k ∈ L, num[p k]? = some (rk L k : Int) := fun k hk => by
    obtain ⟨i, hi⟩ := List.getElem?_of_mem hk
    rw [rk_get hnd hi]; exact h3 i k hi
  have hp : ∀ k ∈ L, p k < 1000 := fun j hj => by have := (H.obj j (hLS j hj)).fits; lia
  have hcr := compS (n := n + 1) hn hp roots (fun c hc => ok_of_cellIn (hr c hc)) hroot
  obtain ⟨x7, hs⟩ := loopShown (n := n + 1) H hLS hcl hn (r := some (iL (words p roots))) (o4 := x4) (o5 := some (iL (words (rk L) roots))) (o2 := some (iL (pls p L))) L [] none (fun _ h => h) (by simp; lia)
  have hmem : mem.length ≤ lim := by unfold lim; lia
  have hLlen : (pls p L).length = L.length := by simp [pls]
  have hst : startStore fd_shape_of [iL mem, iL (words p roots)] = [some (iL mem), some (iL (words p roots)), none, none, none, none, none, none] := rfl
  have hr0 : ((List.range L.length).map (fun i => 0 + i)).map (fun (i : Nat) => PyData.int (i : Int)) = (List.range L.length).map (fun (i : Nat) => PyData.int (i : Int)) := by simp
  rw [hr0] at h1
  rw [hst]
  have hw : (words p roots).length ≤ lim := by rw [words_length]; unfold lim; lia
  refine step_next (s_assign' (d := iL (pls p L)) (by exact hR)) ?_
  refine step_next (s_assign' (d := iL (List.replicate mem.length (-1))) (by exact via rfl (via (iL_len hmem) (iL_repl (show ((mem.length : Nat) : Int).natAbs ≤ 1048576 by lia))))) ?_
  refine step_next ((s_forR' (d := .int (L.length : Int)) (by simp [q_var, q_len, Store.get, iL_len (show (pls p L).length ≤ lim by rw [hLlen]; unfold lim; lia), hLlen]) (range_items (by lia))).trans h1) ?_
  refine step_next (s_assign' (d := iL (words (rk L) roots)) (e_comp' (d := iL (words p roots)) (by rfl) (iL_items hw) (hcr))) ?_
  refine step_next (s_assign' (d := iLL []) (by rfl)) ?_
  refine step_next ((s_forL' (d := iL (pls p L)) (by rfl) (iL_items (by rw [hLlen]; unfold lim; lia))).trans hs) ?_
  refine step_ret (s_ret' (by rfl))
end
end Mine

namespace Mine
open PySem
set_option autoImplicit false
set_option maxRecDepth 100000
noncomputable def zeros (z : Nat) : List Int := List.replicate z 0
noncomputable def sz (R : Nat → List Cell) (k : Nat) : Nat := (R k).length + 1
noncomputable def total (R : Nat → List Cell) (met : List Nat) : Nat := (met.map (sz R)).sum
noncomputable def offs (R : Nat → List Cell) (L : List Nat) (k : Nat) : Nat := total R (L.takeWhile (· ≠ k))
noncomputable def blk (q : Nat → Nat) (R : Nat → List Cell) (k : Nat) : List Int := ((R k).length : Int) :: words q (R k)
noncomputable def blks (q : Nat → Nat) (R : Nat → List Cell) (ks : List Nat) : List Int := ks.flatMap (blk q R)
theorem blk_length (q : Nat → Nat) (R : Nat → List Cell) (k : Nat) : (blk q R k).length = sz R k := by simp [blk, sz, words_length]
theorem blks_length (q : Nat → Nat) (R : Nat → List Cell) (ks : List Nat) : (blks q R ks).length = total R ks := by
  induction ks with
  | nil => rfl
  | cons k ks ih => simp only [blks, List.flatMap_cons, List.length_append, total, List.map_cons, List.sum_cons] at ih ⊢; rw [ih, blk_length]
theorem blks_append (q : Nat → Nat) (R : Nat → List Cell) (a b : List Nat) : blks q R (a ++ b) = blks q R a ++ blks q R b := by simp [blks]
theorem total_append (R : Nat → List Cell) (a b : List Nat) : total R (a ++ b) = total R a + total R b := by simp [total]
theorem total_prefix {R : Nat → List Cell} {a b : List Nat} (h : a <+: b) : total R a ≤ total R b := by obtain ⟨t, rfl⟩ := h; rw [total_append]; lia
theorem intsOnly_iL (xs : List Int) : intsOnly (iL xs) = true := by simp [o_il, iL, o_ii, List.all_map]
theorem offs_at {R : Nat → List Cell} {L pre post : List Nat} {k : Nat} (h : L = pre ++ k :: post) (hn : k ∉ pre) : offs R L k = total R pre := by
  subst h
  unfold offs
  have : (pre ++ k :: post).takeWhile (· ≠ k) = pre := by
    induction pre with
    | nil => simp
    | cons a pre ih =>
      have ha : a ≠ k := fun q => hn (q ▸ .head _)
      simp only [List.cons_append, List.takeWhile_cons]
      rw [if_pos (by simpa using ha), ih fun q => hn (.tail _ q)]
  rw [this]
section
variable {n : Nat}
noncomputable def copyBody : PSs := .cons (.store 1 (.add (.var 3) (.var 6)) (.idx (.var 0) (.add (.var 5) (.var 6)))) .nil
theorem loopCopy {mem A B : List Int} {a : Nat} {f t w av : Option PyData} {Φ : Nat → List PyData → Option PyData} {fuel : Nat} (hA : A.length ≤ 900) (ha : a ≤ 900) (hB : A.length + B.length ≤ 900) : ∀ (todo done Z : List Int) (x : Option PyData), Z.length = todo.length → done.length + todo.length + A.length + B.length ≤ 900 → (∀ i, i < todo.length → mem[a + done.length + i]? = todo[i]?) → t = some (.int (A.length : Int)) → av = some (.int (a : Int)) → a + done.length + todo.length ≤ 900 →
    ∃ x', loopD (denSs Φ fuel copyBody) 6 (((List.range todo.length).map (fun i => done.length + i)).map fun (i : Nat) => PyData.int (i : Int)) [some (iL mem), some (iL (A ++ done ++ Z ++ B)), f, t, w, av, x] = some (.next [some (iL mem), some (iL (A ++ done ++ todo ++ B)), f, t, w, av, x'])
  | [], done, Z, x, hZ, _, _, _, _, _ => ⟨x, by rw [List.length_eq_zero_iff.mp hZ]; rfl⟩
  | v :: todo, done, [], x, hZ, _, _, _, _, _ => by simp at hZ
  | v :: todo, done, z :: Z, x, hZ, hl, hm, ht, hav, hal => by
    simp only [List.length_cons] at hZ hl hal
    obtain ⟨x', ih⟩ := loopCopy (mem := mem) (A := A) (B := B) (a := a) (f := f) (t := t) (w := w) (av := av) (Φ := Φ) (fuel := fuel) hA ha hB todo (done ++ [v]) Z (some (.int (done.length : Int))) (by lia) (by simp; lia) (fun i hi => by
      have := hm (i + 1) (by simp; lia)
      simp only [List.getElem?_cons_succ] at this
      rw [← this]; congr 1; simp; lia) ht hav (by simp; lia)
    refine ⟨x', ?_⟩
    have hr : ((List.range (todo.length + 1)).map (fun i => done.length + i)).map (fun (i : Nat) => PyData.int (i : Int)) = PyData.int (done.length : Int) :: ((List.range todo.length).map (fun i => (done ++ [v]).length + i)).map (fun (i : Nat) => PyData.int (i : Int)) := by
      rw [List.range_succ_eq_map]
      simp only [List.map_cons, List.map_map, Nat.add_zero]
      congr 1
      apply List.map_congr_left
      intro i _
      simp only [Function.comp, List.length_append, List.length_cons, List.length_nil]
      congr 2; lia
    rw [List.length_cons, hr, loopD]
    have h0 := hm 0 (by simp)
    simp only [Nat.add_zero, List.getElem?_cons_zero] at h0
    have hset : (A ++ done ++ z :: Z ++ B).set (A.length + done.length) v = A ++ (done ++ [v]) ++ Z ++ B := by
      have e : A ++ done ++ z :: Z ++ B = (A ++ done) ++ (z :: (Z ++ B)) := by simp
      rw [e, show A.length + done.length = (A ++ done).length by simp, List.set_append_right _ _ (Nat.le_refl _)]
      simp
    have hbody : denSs Φ fuel copyBody [some (iL mem), some (iL (A ++ done ++ z :: Z ++ B)), f, t, w, av, some (.int (done.length : Int))] = some (.next [some (iL mem), some (iL (A ++ (done ++ [v]) ++ Z ++ B)), f, t, w, av, some (.int (done.length : Int))]) := by
      subst ht hav
      refine step_next (s_store' (d := .int v) (l := iL (A ++ done ++ z :: Z ++ B)) (k := .int ((A.length + done.length : Nat) : Int)) (l' := iL (A ++ (done ++ [v]) ++ Z ++ B)) ?_ rfl ?_ ?_) ss_nil'
      · simp only [q_var, q_add, den_idx, Store.get, List.getElem?_cons_zero, List.getElem?_cons_succ, Option.join_some, Option.bind_some, o_add]
        rw [show ((a : Int) + (done.length : Int)) = ((a + done.length : Nat) : Int) by lia]
        exact iL_idx h0 (by lia)
      · simp only [q_var, q_add, Store.get, List.getElem?_cons_zero, List.getElem?_cons_succ, Option.join_some, Option.bind_some, o_add]
        rw [show ((A.length : Int) + (done.length : Int)) = ((A.length + done.length : Nat) : Int) by lia]
      · rw [iL_set (by simp <;> lia) (by simp <;> unfold lim <;> lia), hset]
    simp only [List.set_cons_succ, List.set_cons_zero]
    rw [hbody]
    have e : A ++ (done ++ [v]) ++ todo ++ B = A ++ done ++ v :: todo ++ B := by simp
    rw [e] at ih
    exact ih
theorem fwd_run {mem new fwd : List Int} {top w : Int} {d : PyData} (h1 : new.length ≤ 900) (h2 : fwd.length ≤ 900) (h : denSs (callD tab FU (n + 1)) FU fd_forwarded.body [some (iL mem), some (iL new), some (iL fwd), some (.int top), some (.int w), none, none] = some (.ret d)) :
    callD tab FU (n + 2) 12 [iL mem, iL new, iL fwd, .int top, .int w] = some d := by
  rw [callD, show tab[12]? = some fd_forwarded from rfl]
  simp only [runD]
  rw [if_pos ⟨rfl, by simp [fd_forwarded, iL, lim]; lia⟩]
  rw [show startStore fd_forwarded [iL mem, iL new, iL fwd, .int top, .int w] = [some (iL mem), some (iL new), some (iL fwd), some (.int top), some (.int w), none, none] from rfl, h]
theorem fwd_val {mem new fwd : List Int} {top v : Int} (h1 : new.length ≤ 900) (h2 : fwd.length ≤ 900) (hv : v % 2 = 0) : callD tab FU (n + 2) 12 [iL mem, iL new, iL fwd, .int top, .int v] = some (.tuple [iL new, iL fwd, .int top, .int v]) := by
  refine fwd_run h1 h2 (step_ret ((s_ite_t ?_).trans (step_ret ?_)))
  · have : ¬ (v % 2 = 1) := by lia
    simp [dC_ex, dC_not, q_var, q_call, dEs_nil, dEs_cons, Store.get, c_is_pointer, this]
  · rfl
theorem fwd_seen {mem new fwd : List Int} {top : Int} {a f : Nat} (h1 : new.length ≤ 900) (h2 : fwd.length ≤ 900) (hf : fwd[a]? = some (f : Int)) : callD tab FU (n + 2) 12 [iL mem, iL new, iL fwd, .int top, .int (2 * (a : Int) + 1)] = some (.tuple [iL new, iL fwd, .int top, .int (2 * (f : Int) + 1)]) := by
  have ha : a < fwd.length := (List.getElem?_eq_some_iff.mp hf).1
  refine fwd_run h1 h2 ?_
  refine step_next (s_skip (by simp [dC_ex, dC_not, q_var, q_call, dEs_nil, dEs_cons, Store.get, c_is_pointer] <;> lia)) ?_
  have e2 : (2 * (a : Int) + 1) / 2 = a := by lia
  refine step_next (s_assign' (d := .int (a : Int)) (by simp only [q_var, q_call, dEs_nil, dEs_cons, Store.get, List.getElem?_cons_zero, List.getElem?_cons_succ, Option.join_some, Option.bind_some, c_address_of, e2])) ?_
  refine step_next (s_skip ?_) (step_ret ?_)
  · simp only [dC_ex, q_int, q_var, den_cmp, den_idx, Store.get, List.set_cons_succ, List.set_cons_zero, List.getElem?_cons_zero, List.getElem?_cons_succ, Option.join_some, Option.bind_some, iL_idx hf (by lia), o_lt, Option.map_some]
    rw [decide_eq_false (by lia)]
  · simp only [dS_ret2, q_var, den_idx, q_call, dEs_nil, dEs_cons, Store.get, List.set_cons_succ, List.set_cons_zero, List.getElem?_cons_zero, List.getElem?_cons_succ, Option.join_some, Option.bind_some, iL_idx hf (show a < 1048576 by lia), c_pointer_to]
theorem fwd_new {mem A Z B fwd ws : List Int} {a : Nat} (hm : mem.length ≤ 900) (hl : A.length + ws.length + 1 + B.length ≤ 900) (h2 : fwd.length ≤ 900) (ho : ObjAt mem a ws) (hf : fwd[a]? = some (-1)) (hZ : Z.length = ws.length + 1) :
    callD tab FU (n + 2) 12 [iL mem, iL (A ++ Z ++ B), iL fwd, .int (A.length : Int), .int (2 * (a : Int) + 1)] = some (.tuple [iL (A ++ ((ws.length : Int) :: ws) ++ B), iL (fwd.set a (A.length : Int)), .int ((A.length + ws.length + 1 : Nat) : Int), .int (2 * (A.length : Int) + 1)]) := by
  have ha : a < fwd.length := (List.getElem?_eq_some_iff.mp hf).1
  have hfit := ho.fits
  refine fwd_run (by simp; lia) h2 ?_
  refine step_next (s_skip (by simp [dC_ex, dC_not, q_var, q_call, dEs_nil, dEs_cons, Store.get, c_is_pointer] <;> lia)) ?_
  have e2 : (2 * (a : Int) + 1) / 2 = a := by lia
  refine step_next (s_assign' (d := .int (a : Int)) (by simp only [q_var, q_call, dEs_nil, dEs_cons, Store.get, List.getElem?_cons_zero, List.getElem?_cons_succ, Option.join_some, Option.bind_some, c_address_of, e2])) ?_
  obtain ⟨x', hloop⟩ := loopCopy (mem := mem) (A := A) (B := B) (a := a) (f := some (iL fwd)) (t := some (.int (A.length : Int))) (w := some (.int (2 * (a : Int) + 1))) (av := some (.int (a : Int))) (Φ := callD tab FU (n + 1)) (fuel := FU) (by lia) (by lia) (by lia) ((ws.length : Int) :: ws) [] Z none (by simp; lia) (by simp; lia) (fun i hi => by
      simp only [List.length_nil, Nat.add_zero]
      cases i with
      | zero => simpa using ho.head
      | succ i =>
        simp only [List.length_cons] at hi
        have := ho.get (i := i) (by lia)
        rw [show a + (i + 1) = a + 1 + i by lia, this]
        simp [show i < ws.length by lia]) rfl rfl (by simp; lia)
  simp only [List.append_nil, List.length_nil, List.length_cons] at hloop
  have hr0 : ((List.range (ws.length + 1)).map (fun i => 0 + i)).map (fun (i : Nat) => PyData.int (i : Int)) = (List.range (ws.length + 1)).map (fun (i : Nat) => PyData.int (i : Int)) := by simp
  rw [hr0] at hloop
  refine step_next (σ' := [some (iL mem), some (iL (A ++ ((ws.length : Int) :: ws) ++ B)), some (iL (fwd.set a (A.length : Int))), some (.int ((A.length + ws.length + 1 : Nat) : Int)), some (.int (2 * (a : Int) + 1)), some (.int (a : Int)), x']) ((s_ite_t ?_).trans ?_) ?_
  · simp only [dC_ex, q_int, q_var, den_cmp, den_idx, Store.get, List.set_cons_succ, List.set_cons_zero, List.getElem?_cons_zero, List.getElem?_cons_succ, Option.join_some, Option.bind_some, iL_idx hf (show a < 1048576 by lia), o_lt, Option.map_some]
    rfl
  · refine step_next ((s_forR' (d := .int ((ws.length + 1 : Nat) : Int)) ?_ (range_items (by lia))).trans hloop) ?_
    · simp only [q_int, q_var, q_add, den_idx, Store.get, List.set_cons_succ, List.set_cons_zero, List.getElem?_cons_zero, List.getElem?_cons_succ, Option.join_some, Option.bind_some, iL_idx ho.head (show a < 1048576 by lia), o_add]
      rfl
    · refine step_next (s_store' (d := .int (A.length : Int)) (l := iL fwd) (k := .int (a : Int)) (l' := iL (fwd.set a (A.length : Int))) (by rfl) rfl (by rfl) (iL_set ha (by unfold lim; lia))) ?_
      refine step_next (s_assign' (d := .int ((A.length + ws.length + 1 : Nat) : Int)) ?_) ss_nil'
      simp only [q_int, q_var, q_add, den_idx, Store.get, List.set_cons_succ, List.set_cons_zero, List.getElem?_cons_zero, List.getElem?_cons_succ, Option.join_some, Option.bind_some, iL_idx ho.head (show a < 1048576 by lia), o_add]
      congr 2
  · refine step_ret ?_
    have hget : (fwd.set a (A.length : Int))[a]? = some (A.length : Int) := List.getElem?_set_self ha
    simp only [dS_ret2, q_var, den_idx, q_call, dEs_nil, dEs_cons, Store.get, List.set_cons_succ, List.set_cons_zero, List.getElem?_cons_zero, List.getElem?_cons_succ, Option.join_some, Option.bind_some, iL_idx hget (show a < 1048576 by lia), c_pointer_to]
end
end Mine

namespace Mine
open PySem
set_option autoImplicit false
set_option maxRecDepth 100000
structure FwdOk (F : List Int) (p q : Nat → Nat) (S : Nat → Prop) (met : List Nat) (size : Nat) : Prop where
  len : F.length = size
  at_ : ∀ k, S k → F[p k]? = some (if k ∈ met then (q k : Int) else -1)
theorem zeros_split {a b : Nat} (h : b ≤ a) : zeros a = zeros b ++ zeros (a - b) := by
  unfold zeros; rw [List.replicate_append_replicate]; congr 1; lia
theorem zeros_length (z : Nat) : (zeros z).length = z := by simp [zeros]
section
variable {n : Nat}
theorem fwd_cell {mem : List Int} {p : Nat → Nat} {R : Nat → List Cell} {S : Nat → Prop} (H : Holds mem p R S) {L met : List Nat} (hm : ∀ k ∈ met, S k) {c : Cell} (hc : cellIn S c) (hpre : addC met c <+: L) (hLn : L.Nodup) (hz : total R L ≤ mem.length)
    {N : List Int} (hN : N.length = total R met) {F : List Int} (hF : FwdOk F p (offs R L) S met mem.length) :
    ∃ F', callD tab FU (n + 2) 12 [iL mem, iL (N ++ zeros (mem.length - total R met)), iL F, .int (total R met : Int), .int (c.word p)] =
        some (.tuple [iL (N ++ blks p R ((addC met c).drop met.length) ++ zeros (mem.length - total R (addC met c))), iL F', .int (total R (addC met c) : Int), .int (c.word (offs R L))]) ∧ FwdOk F' p (offs R L) S (addC met c) mem.length := by
  have hml := H.small
  have hpre0 : met <+: L := (addC_pre met c).trans hpre
  have ht0 := total_prefix (R := R) hpre0
  have ht1 := total_prefix (R := R) hpre
  have hnl : (N ++ zeros (mem.length - total R met)).length ≤ 900 := by rw [List.length_append, zeros_length]; lia
  cases c with
  | val v =>
    refine ⟨F, ?_, hF⟩
    rw [show Cell.word p (.val v) = v from rfl, show Cell.word (offs R L) (.val v) = v from rfl, show addC met (.val v) = met from rfl]
    rw [List.drop_length, show blks p R [] = [] from rfl, List.append_nil]
    exact fwd_val hnl (by rw [hF.len]; exact hml) hc
  | ptr k =>
    have hkS : S k := hc
    by_cases hk : k ∈ met
    · have e : addC met (.ptr k) = met := by simp only [addC]; rw [if_pos hk]
      refine ⟨F, ?_, by rw [e]; exact hF⟩
      rw [e, List.drop_length, show blks p R [] = [] from rfl, List.append_nil]
      have := hF.at_ k hkS
      rw [if_pos hk] at this
      exact fwd_seen hnl (by rw [hF.len]; exact hml) this
    · have e : addC met (.ptr k) = met ++ [k] := by simp only [addC]; rw [if_neg hk]
      rw [e] at hpre ht1
      have hq : offs R L k = total R met := by
        obtain ⟨t, ht⟩ := hpre
        exact offs_at (post := t) (by rw [← ht]; simp) hk
      have htot : total R (met ++ [k]) = total R met + sz R k := by rw [total_append]; simp [total]
      rw [htot] at ht1
      have hsz : sz R k = (words p (R k)).length + 1 := by rw [words_length]; rfl
      have hf := hF.at_ k hkS
      rw [if_neg hk] at hf
      have hsplit : zeros (mem.length - total R met) = zeros ((words p (R k)).length + 1) ++ zeros (mem.length - total R (met ++ [k])) := by
        rw [zeros_split (a := mem.length - total R met) (b := (words p (R k)).length + 1) (by lia), htot]
        congr 2; lia
      have hkl : p k < F.length := (List.getElem?_eq_some_iff.mp hf).1
      refine ⟨F.set (p k) (N.length : Int), ?_, ⟨by simp [hF.len], fun j hj => ?_⟩⟩
      · rw [e, List.drop_left, hsplit]
        have := fwd_new (n := n) (mem := mem) (A := N) (Z := zeros ((words p (R k)).length + 1)) (B := zeros (mem.length - total R (met ++ [k]))) (fwd := F) (ws := words p (R k)) (a := p k) hml (by rw [zeros_length, htot]; lia) (by rw [hF.len]; exact hml) (H.obj k hkS) hf (by rw [zeros_length])
        rw [← List.append_assoc]
        rw [hN] at this
        rw [show Cell.word p (.ptr k) = 2 * (p k : Int) + 1 from rfl, this]
        rw [show Cell.word (offs R L) (.ptr k) = 2 * (offs R L k : Int) + 1 from rfl, hq, htot, hN]
        have eb : blks p R [k] = ((words p (R k)).length : Int) :: words p (R k) := by simp [blks, blk, words_length]
        rw [eb]
        congr 7
        lia
      · by_cases hjk : j = k
        · subst hjk
          rw [List.getElem?_set_self hkl, e, if_pos (by simp), hq, hN]
        · have hne : p k ≠ p j := fun q => hjk (H.inj k j hkS hj q).symm
          rw [List.getElem?_set_ne hne, hF.at_ j hj, e]
          congr 1
          have : (j ∈ met ++ [k]) ↔ j ∈ met := by simp [hjk]
          by_cases hjm : j ∈ met
          · rw [if_pos hjm, if_pos (this.mpr hjm)]
          · rw [if_neg hjm, if_neg fun q => hjm (this.mp q)]
noncomputable def esA : PEs := .cons (.var 0) (.cons (.var 3) (.cons (.var 4) (.cons (.var 5) (.cons (.var 7) .nil))))
noncomputable def bodyA : PSs := .unpA 12 esA 8 3 4 5 6 .nil
theorem drop_two {met cs1 : List Nat} {a b : List Nat} (h1 : met <+: a) (h2 : a <+: b) : b.drop met.length = a.drop met.length ++ b.drop a.length := by
  obtain ⟨t, rfl⟩ := h1
  obtain ⟨u, rfl⟩ := h2
  simp [List.append_assoc]
theorem loopA {mem : List Int} {p : Nat → Nat} {R : Nat → List Cell} {S : Nat → Prop} (H : Holds mem p R S) {L : List Nat} (hLn : L.Nodup) (hz : total R L ≤ mem.length) {o1 o2 o9 o10 : Option PyData} : ∀ (cs : List Cell) (met : List Nat) (N F moved : List Int) (x st : Option PyData), (∀ k ∈ met, S k) → (∀ c ∈ cs, cellIn S c) → addCs met cs <+: L → N.length = total R met → FwdOk F p (offs R L) S met mem.length → moved.length + cs.length ≤ 900 →
    ∃ F' x' st', loopD (denSs (callD tab FU (n + 2)) FU bodyA) 7 ((words p cs).map .int) [some (iL mem), o1, o2, some (iL (N ++ zeros (mem.length - total R met))), some (iL F), some (.int (total R met : Int)), some (iL moved), x, st, o9, o10] =
      some (.next [some (iL mem), o1, o2, some (iL (N ++ blks p R ((addCs met cs).drop met.length) ++ zeros (mem.length - total R (addCs met cs)))), some (iL F'), some (.int (total R (addCs met cs) : Int)), some (iL (moved ++ words (offs R L) cs)), x', st', o9, o10]) ∧ FwdOk F' p (offs R L) S (addCs met cs) mem.length
  | [], met, N, F, moved, x, st, _, _, _, _, hF, _ => ⟨F, x, st, by simp [addCs, blks, words, o_l0], hF⟩
  | c :: cs, met, N, F, moved, x, st, hm, hc, hpre, hN, hF, hl => by
    simp only [List.length_cons] at hl
    have hpre1 : addC met c <+: L := (addCs_pre cs (addC met c)).trans hpre
    obtain ⟨F1, h1, hF1⟩ := fwd_cell (n := n) H hm (hc c (.head _)) hpre1 hLn hz hN hF
    have hN1 : (N ++ blks p R ((addC met c).drop met.length)).length = total R (addC met c) := by
      rw [List.length_append, hN, blks_length, ← total_append]
      congr 1
      obtain ⟨t, ht⟩ := addC_pre met c
      rw [← ht]; simp
    obtain ⟨F', x', st', ih, hF'⟩ := loopA H hLn hz (o1 := o1) (o2 := o2) (o9 := o9) (o10 := o10) cs (addC met c) (N ++ blks p R ((addC met c).drop met.length)) F1 (moved ++ [c.word (offs R L)]) (some (.int (c.word p))) none (addC_sub hm (hc c (.head _))) (fun d hd => hc d (.tail _ hd)) hpre hN1 hF1 (by simp; lia)
    refine ⟨F', x', st', ?_, hF'⟩
    show loopD _ 7 (PyData.int (c.word p) :: (words p cs).map .int) _ = _
    rw [loopD]
    have hbody : denSs (callD tab FU (n + 2)) FU bodyA [some (iL mem), o1, o2, some (iL (N ++ zeros (mem.length - total R met))), some (iL F), some (.int (total R met : Int)), some (iL moved), some (.int (c.word p)), st, o9, o10] =
        some (.next [some (iL mem), o1, o2, some (iL (N ++ blks p R ((addC met c).drop met.length) ++ zeros (mem.length - total R (addC met c)))), some (iL F1), some (.int (total R (addC met c) : Int)), some (iL (moved ++ [c.word (offs R L)])), some (.int (c.word p)), none, o9, o10]) := by
      rw [bodyA, dSs_unpA]
      simp only [esA, dEs_nil, dEs_cons, q_var, Store.get, List.getElem?_cons_zero, List.getElem?_cons_succ, Option.join_some, Option.bind_some, h1, o_un, intsOnly_iL, Bool.and_self, if_true, iL_append (show moved.length < lim by unfold lim; lia), List.set_cons_succ, List.set_cons_zero, dSs_nil]
    simp only [List.set_cons_succ, List.set_cons_zero]
    rw [hbody]
    simp only
    rw [ih]
    have e1 := drop_two (cs1 := []) (addC_pre met c) (addCs_pre cs (addC met c))
    rw [show addCs met (c :: cs) = addCs (addC met c) cs from rfl, e1, blks_append]
    simp [words]
end
end Mine

namespace Mine
open PySem
set_option autoImplicit false
set_option maxRecDepth 100000
section
variable {n : Nat}
noncomputable def iS : PE := .add (.add (.var 9) (.int 1)) (.var 10)
noncomputable def esS : PEs := .cons (.var 0) (.cons (.var 3) (.cons (.var 4) (.cons (.var 5) (.cons (.idx (.var 3) iS) .nil))))
noncomputable def bodyS : PSs := .unpS 12 esS 8 3 4 5 iS .nil
theorem range_from (k t : Nat) : ((List.range (t + 1)).map (fun i => k + i)).map (fun (i : Nat) => PyData.int (i : Int)) = PyData.int (k : Int) :: ((List.range t).map (fun i => (k + 1) + i)).map (fun (i : Nat) => PyData.int (i : Int)) := by
  rw [List.range_succ_eq_map]
  simp only [List.map_cons, List.map_map, Nat.add_zero]
  congr 1
  apply List.map_congr_left
  intro i _
  simp only [Function.comp]
  congr 2; lia
theorem loopS {mem : List Int} {p : Nat → Nat} {R : Nat → List Cell} {S : Nat → Prop} (H : Holds mem p R S) {L : List Nat} (hLn : L.Nodup) (hz : total R L ≤ mem.length) {o1 o2 o6 o7 : Option PyData} {D : List Int} {hd : Int} : ∀ (todo done : List Cell) (met : List Nat) (Rw F : List Int) (x st : Option PyData), (∀ k ∈ met, S k) → (∀ c ∈ todo, cellIn S c) → addCs met todo <+: L → (D ++ (hd :: (words (offs R L) done ++ words p todo)) ++ Rw).length = total R met → FwdOk F p (offs R L) S met mem.length →
    ∃ F' x' st', loopD (denSs (callD tab FU (n + 2)) FU bodyS) 10 (((List.range todo.length).map (fun i => done.length + i)).map fun (i : Nat) => PyData.int (i : Int)) [some (iL mem), o1, o2, some (iL (D ++ (hd :: (words (offs R L) done ++ words p todo)) ++ Rw ++ zeros (mem.length - total R met))), some (iL F), some (.int (total R met : Int)), o6, o7, st, some (.int (D.length : Int)), x] =
      some (.next [some (iL mem), o1, o2, some (iL (D ++ (hd :: words (offs R L) (done ++ todo)) ++ (Rw ++ blks p R ((addCs met todo).drop met.length)) ++ zeros (mem.length - total R (addCs met todo)))), some (iL F'), some (.int (total R (addCs met todo) : Int)), o6, o7, st', some (.int (D.length : Int)), x']) ∧ FwdOk F' p (offs R L) S (addCs met todo) mem.length
  | [], done, met, Rw, F, x, st, _, _, _, _, hF => ⟨F, x, st, by simp [addCs, blks, words, o_l0], hF⟩
  | c :: cs, done, met, Rw, F, x, st, hm, hc, hpre, hN, hF => by
    have hml := H.small
    have hpre1 : addC met c <+: L := (addCs_pre cs (addC met c)).trans hpre
    have ht0 := total_prefix (R := R) ((addC_pre met c).trans hpre1)
    have ht1 := total_prefix (R := R) hpre1
    obtain ⟨F1, h1, hF1⟩ := fwd_cell (n := n) H hm (hc c (.head _)) hpre1 hLn hz hN hF
    have hNl := hN
    simp only [List.length_append, List.length_cons, words_length] at hNl
    have hsetq : ∀ (X : List Int), (D ++ (hd :: (words (offs R L) done ++ words p (c :: cs))) ++ X).set (D.length + 1 + done.length) (c.word (offs R L)) = D ++ (hd :: (words (offs R L) (done ++ [c]) ++ words p cs)) ++ X := by
      intro X
      have e : D ++ (hd :: (words (offs R L) done ++ words p (c :: cs))) ++ X = (D ++ (hd :: words (offs R L) done)) ++ (c.word p :: (words p cs ++ X)) := by simp [words]
      rw [e, show D.length + 1 + done.length = (D ++ (hd :: words (offs R L) done)).length by simp [words_length]; lia, List.set_append_right _ _ (Nat.le_refl _)]
      simp [words]
    have hget : ∀ (X : List Int), (D ++ (hd :: (words (offs R L) done ++ words p (c :: cs))) ++ X)[D.length + 1 + done.length]? = some (c.word p) := by
      intro X
      have e : D ++ (hd :: (words (offs R L) done ++ words p (c :: cs))) ++ X = (D ++ (hd :: words (offs R L) done)) ++ (c.word p :: (words p cs ++ X)) := by simp [words]
      rw [e, List.getElem?_append_right (by simp [words_length]; lia)]
      simp [words_length]
      rw [show D.length + 1 + done.length - (D.length + (done.length + 1)) = 0 by lia]
      rfl
    have hN1 : (D ++ (hd :: (words (offs R L) (done ++ [c]) ++ words p cs)) ++ (Rw ++ blks p R ((addC met c).drop met.length))).length = total R (addC met c) := by
      have hd2 : total R ((addC met c).drop met.length) + total R met = total R (addC met c) := by
        obtain ⟨t, ht⟩ := addC_pre met c
        rw [← ht]; simp [total_append]; lia
      simp only [List.length_append, List.length_cons, words_length, blks_length, List.length_nil]
      lia
    obtain ⟨F', x', st', ih, hF'⟩ := loopS H hLn hz (o1 := o1) (o2 := o2) (o6 := o6) (o7 := o7) (D := D) (hd := hd) cs (done ++ [c]) (addC met c) (Rw ++ blks p R ((addC met c).drop met.length)) F1 (some (.int (done.length : Int))) none (addC_sub hm (hc c (.head _))) (fun d hd => hc d (.tail _ hd)) hpre hN1 hF1
    refine ⟨F', x', st', ?_, hF'⟩
    rw [List.length_cons, range_from, loopD]
    have hbody : denSs (callD tab FU (n + 2)) FU bodyS [some (iL mem), o1, o2, some (iL (D ++ (hd :: (words (offs R L) done ++ words p (c :: cs))) ++ Rw ++ zeros (mem.length - total R met))), some (iL F), some (.int (total R met : Int)), o6, o7, st, some (.int (D.length : Int)), some (.int (done.length : Int))] =
        some (.next [some (iL mem), o1, o2, some (iL (D ++ (hd :: (words (offs R L) (done ++ [c]) ++ words p cs)) ++ (Rw ++ blks p R ((addC met c).drop met.length)) ++ zeros (mem.length - total R (addC met c)))), some (iL F1), some (.int (total R (addC met c) : Int)), o6, o7, none, some (.int (D.length : Int)), some (.int (done.length : Int))]) := by
      have hi : ∀ (b a4 a5 a8 : Option PyData), denE (callD tab FU (n + 2)) iS [some (iL mem), o1, o2, b, a4, a5, o6, o7, a8, some (.int (D.length : Int)), some (.int (done.length : Int))] = some (.int ((D.length + 1 + done.length : Nat) : Int)) := by
        intro b a4 a5 a8
        simp only [iS, q_int, q_var, q_add, Store.get, List.getElem?_cons_zero, List.getElem?_cons_succ, Option.join_some, Option.bind_some, o_add]
        congr 2
      have hidx := iL_idx (hget (Rw ++ zeros (mem.length - total R met))) (show D.length + 1 + done.length < 1048576 by lia)
      rw [← List.append_assoc] at hidx
      rw [bodyS, dSs_unpS]
      have hes : denEs (callD tab FU (n + 2)) esS [some (iL mem), o1, o2, some (iL (D ++ (hd :: (words (offs R L) done ++ words p (c :: cs))) ++ Rw ++ zeros (mem.length - total R met))), some (iL F), some (.int (total R met : Int)), o6, o7, st, some (.int (D.length : Int)), some (.int (done.length : Int))] = some [iL mem, iL (D ++ (hd :: (words (offs R L) done ++ words p (c :: cs))) ++ Rw ++ zeros (mem.length - total R met)), iL F, .int (total R met : Int), .int (c.word p)] := by
        simp only [esS, dEs_nil, dEs_cons]
        rw [show denE (callD tab FU (n + 2)) (.idx (.var 3) iS) [some (iL mem), o1, o2, some (iL (D ++ (hd :: (words (offs R L) done ++ words p (c :: cs))) ++ Rw ++ zeros (mem.length - total R met))), some (iL F), some (.int (total R met : Int)), o6, o7, st, some (.int (D.length : Int)), some (.int (done.length : Int))] = some (.int (c.word p)) by
          rw [den_idx, hi]
          simp only [q_var, Store.get, List.getElem?_cons_zero, List.getElem?_cons_succ, Option.join_some, Option.bind_some, hidx]]
        simp only [q_var, Store.get, List.getElem?_cons_zero, List.getElem?_cons_succ, Option.join_some, Option.bind_some]
      rw [hes]
      simp only [Option.bind_some, h1, o_un, intsOnly_iL, Bool.and_self, if_true, List.set_cons_succ, List.set_cons_zero, hi]
      rw [iL_set (by simp [words_length, zeros_length, blks_length]; lia) (by
        have hd2 : total R ((addC met c).drop met.length) + total R met = total R (addC met c) := by
          obtain ⟨t, ht⟩ := addC_pre met c
          rw [← ht]; simp [total_append]; lia
        simp only [List.length_append, List.length_cons, words_length, blks_length, zeros_length]; unfold lim; lia)]
      simp only [Option.bind_some, dSs_nil]
      congr 6
      have := hsetq (Rw ++ blks p R ((addC met c).drop met.length) ++ zeros (mem.length - total R (addC met c)))
      simp only [List.append_assoc] at this ⊢
      rw [this]
    simp only [List.set_cons_succ, List.set_cons_zero]
    rw [hbody]
    have e0 : (done ++ [c]).length = done.length + 1 := by simp
    rw [e0] at ih
    simp only
    rw [ih]
    have e1 := drop_two (cs1 := []) (addC_pre met c) (addCs_pre cs (addC met c))
    rw [show addCs met (c :: cs) = addCs (addC met c) cs from rfl, e1, blks_append]
    simp
end
end Mine

namespace Mine
open PySem
set_option autoImplicit false
set_option maxRecDepth 100000
section
variable {n : Nat}
noncomputable def condS : PC := .ex (.cmp .lt (.var 9) (.var 5))
noncomputable def wbodyS : PSs := .cons (.forR 10 (.idx (.var 3) (.var 9)) bodyS) (.cons (.assign 9 (.add (.add (.var 9) (.idx (.var 3) (.var 9))) (.int 1))) .nil)
theorem total_take {R : Nat → List Cell} {met : List Nat} {pl : Nat} (h : pl < met.length) : total R (met.take (pl + 1)) = total R (met.take pl) + sz R met[pl] := by
  rw [List.take_succ_eq_append_getElem h, total_append]; simp [total]
theorem whileS {mem : List Int} {p : Nat → Nat} {R : Nat → List Cell} {S : Nat → Prop} (H : Holds mem p R S) (hS : ∀ k, S k → k < 8) {L : List Nat} (hLn : L.Nodup) (hz : total R L ≤ mem.length) {o1 o2 o6 o7 : Option PyData} : ∀ (f pl : Nat) (met : List Nat) (F : List Int) (x st : Option PyData) (g : Nat), f < g → (∀ k ∈ met, S k) → termN R f pl met → closeN R f pl met = L → pl ≤ met.length → FwdOk F p (offs R L) S met mem.length →
    ∃ F' x' st' sc, whileD (denC (callD tab FU (n + 2)) condS) (denSs (callD tab FU (n + 2)) FU wbodyS) g [some (iL mem), o1, o2, some (iL (blks (offs R L) R (met.take pl) ++ blks p R (met.drop pl) ++ zeros (mem.length - total R met))), some (iL F), some (.int (total R met : Int)), o6, o7, st, some (.int (total R (met.take pl) : Int)), x] =
      some (.next [some (iL mem), o1, o2, some (iL (blks (offs R L) R L ++ zeros (mem.length - total R L))), some (iL F'), some (.int (total R L : Int)), o6, o7, st', sc, x'])
  | f, pl, met, F, x, st, 0, hg, _, _, _, _, _ => by lia
  | f, pl, met, F, x, st, g + 1, hg, hm, ht, hL, hpl, hF => by
    have hml := H.small
    have hpreL : met <+: L := hL ▸ close_pre f pl met
    have ht0 := total_prefix (R := R) hpreL
    have hcond : denC (callD tab FU (n + 2)) condS [some (iL mem), o1, o2, some (iL (blks (offs R L) R (met.take pl) ++ blks p R (met.drop pl) ++ zeros (mem.length - total R met))), some (iL F), some (.int (total R met : Int)), o6, o7, st, some (.int (total R (met.take pl) : Int)), x] = some (decide (total R (met.take pl) < total R met)) := by
      simp [condS, dC_ex, q_var, den_cmp, Store.get, o_lt]
    rw [whileD, hcond]
    by_cases hlt : pl < met.length
    · have hget : met[pl]? = some met[pl] := List.getElem?_eq_getElem hlt
      have hsp : total R met = total R (met.take pl) + total R (met.drop pl) := by rw [← total_append, List.take_append_drop]
      have hdrop : met.drop pl = met[pl] :: met.drop (pl + 1) := List.drop_eq_getElem_cons hlt
      have hsz1 : total R (met.drop pl) = sz R met[pl] + total R (met.drop (pl + 1)) := by rw [hdrop]; simp only [total, List.map_cons, List.sum_cons]
      have hszp : 1 ≤ sz R met[pl] := by unfold sz; lia
      rw [decide_eq_true (by lia)]
      cases f with
      | zero => unfold termN at ht; rw [hget] at ht; cases ht
      | succ f =>
        unfold termN at ht
        rw [hget] at ht
        have hL' : closeN R f (pl + 1) (addCs met (R met[pl])) = L := by rw [← hL, closeN, hget]
        have hkS := hm met[pl] (List.getElem_mem hlt)
        have hpre2 : addCs met (R met[pl]) <+: L := hL' ▸ close_pre f (pl + 1) _
        have ht2 := total_prefix (R := R) hpre2
        have hDl : (blks (offs R L) R (met.take pl)).length = total R (met.take pl) := blks_length ..
        have hnew : blks (offs R L) R (met.take pl) ++ blks p R (met.drop pl) ++ zeros (mem.length - total R met) = blks (offs R L) R (met.take pl) ++ (((R met[pl]).length : Int) :: (words (offs R L) [] ++ words p (R met[pl]))) ++ blks p R (met.drop (pl + 1)) ++ zeros (mem.length - total R met) := by
          rw [hdrop]; simp only [blks, blk, words, List.flatMap_cons, List.map_nil, List.nil_append, List.append_assoc, List.cons_append]
        have hNl : (blks (offs R L) R (met.take pl) ++ (((R met[pl]).length : Int) :: (words (offs R L) [] ++ words p (R met[pl]))) ++ blks p R (met.drop (pl + 1))).length = total R met := by
          simp only [List.length_append, List.length_cons, words_length, blks_length, List.length_nil]
          unfold sz at hsz1; lia
        obtain ⟨F1, x1, st1, hloop, hF1⟩ := loopS (n := n) H hLn hz (o1 := o1) (o2 := o2) (o6 := o6) (o7 := o7) (D := blks (offs R L) R (met.take pl)) (hd := ((R met[pl]).length : Int)) (R met[pl]) [] met (blks p R (met.drop (pl + 1))) F x st hm (H.cells _ hkS) hpre2 hNl hF
        rw [← hnew, hDl] at hloop
        have hr0 : ((List.range (R met[pl]).length).map (fun i => ([] : List Cell).length + i)).map (fun (i : Nat) => PyData.int (i : Int)) = (List.range (R met[pl]).length).map (fun (i : Nat) => PyData.int (i : Int)) := by simp
        rw [hr0] at hloop
        have hnew2 : blks (offs R L) R (met.take pl) ++ (((R met[pl]).length : Int) :: words (offs R L) ([] ++ R met[pl])) ++ (blks p R (met.drop (pl + 1)) ++ blks p R ((addCs met (R met[pl])).drop met.length)) = blks (offs R L) R ((addCs met (R met[pl])).take (pl + 1)) ++ blks p R ((addCs met (R met[pl])).drop (pl + 1)) := by
          obtain ⟨t, ht'⟩ := addCs_pre (R met[pl]) met
          rw [← ht', List.drop_left, List.take_append_of_le_length (by lia), List.drop_append_of_le_length (by lia), blks_append, List.take_succ_eq_append_getElem hlt, blks_append]
          simp [blks, blk]
        rw [hnew2] at hloop
        have hidx : ∀ (k : Nat) (X : List Int), (blks (offs R L) R (met.take pl) ++ ((k : Int) :: X))[total R (met.take pl)]? = some (k : Int) := by
          intro k X
          rw [← hDl, List.getElem?_append_right (Nat.le_refl _)]; simp
        have hidx1 : (blks (offs R L) R (met.take pl) ++ blks p R (met.drop pl) ++ zeros (mem.length - total R met))[total R (met.take pl)]? = some ((R met[pl]).length : Int) := by
          have := hidx (R met[pl]).length (words p (R met[pl]) ++ (blks p R (met.drop (pl + 1)) ++ zeros (mem.length - total R met)))
          rw [hdrop]
          simp only [blks, blk, List.flatMap_cons, List.append_assoc, List.cons_append] at this ⊢
          exact this
        have hidx2 : (blks (offs R L) R ((addCs met (R met[pl])).take (pl + 1)) ++ blks p R ((addCs met (R met[pl])).drop (pl + 1)) ++ zeros (mem.length - total R (addCs met (R met[pl]))))[total R (met.take pl)]? = some ((R met[pl]).length : Int) := by
          rw [← hnew2]
          have := hidx (R met[pl]).length (words (offs R L) ([] ++ R met[pl]) ++ ((blks p R (met.drop (pl + 1)) ++ blks p R ((addCs met (R met[pl])).drop met.length)) ++ zeros (mem.length - total R (addCs met (R met[pl])))))
          simp only [List.append_assoc, List.cons_append] at this ⊢
          exact this
        have htk : total R ((addCs met (R met[pl])).take (pl + 1)) = total R (met.take pl) + sz R met[pl] := by
          obtain ⟨t, ht'⟩ := addCs_pre (R met[pl]) met
          rw [← ht', List.take_append_of_le_length (by lia), total_take hlt]
        have hlen2 := addCs_grow (R met[pl]) met
        have hbody : denSs (callD tab FU (n + 2)) FU wbodyS [some (iL mem), o1, o2, some (iL (blks (offs R L) R (met.take pl) ++ blks p R (met.drop pl) ++ zeros (mem.length - total R met))), some (iL F), some (.int (total R met : Int)), o6, o7, st, some (.int (total R (met.take pl) : Int)), x] =
            some (.next [some (iL mem), o1, o2, some (iL (blks (offs R L) R ((addCs met (R met[pl])).take (pl + 1)) ++ blks p R ((addCs met (R met[pl])).drop (pl + 1)) ++ zeros (mem.length - total R (addCs met (R met[pl]))))), some (iL F1), some (.int (total R (addCs met (R met[pl])) : Int)), o6, o7, st1, some (.int (total R ((addCs met (R met[pl])).take (pl + 1)) : Int)), x1]) := by
          refine step_next ((s_forR' (d := .int ((R met[pl]).length : Int)) ?_ (range_items ?_)).trans hloop) ?_
          · simp only [q_var, den_idx, Store.get, List.getElem?_cons_zero, List.getElem?_cons_succ, Option.join_some, Option.bind_some]
            exact iL_idx hidx1 (by lia)
          · have := (H.obj _ hkS).fits; rw [words_length] at this; lia
          · refine step_next (s_assign' (d := .int (total R ((addCs met (R met[pl])).take (pl + 1)) : Int)) ?_) ss_nil'
            simp only [q_int, q_var, q_add, den_idx, Store.get, List.getElem?_cons_zero, List.getElem?_cons_succ, Option.join_some, Option.bind_some, iL_idx hidx2 (show total R (met.take pl) < 1048576 by lia), o_add, htk]
            unfold sz
            congr 2
        simp only
        rw [hbody]
        simp only
        exact whileS H hS hLn hz f (pl + 1) (addCs met (R met[pl])) F1 x1 st1 g (by lia) (addCs_sub hm (H.cells _ hkS)) ht hL' (by lia) hF1
    · have hpe : pl = met.length := by lia
      subst hpe
      rw [List.take_length, List.drop_length, decide_eq_false (by lia)]
      have hLm : met = L := by
        rw [← hL]
        cases f with
        | zero => rfl
        | succ f => rw [closeN, List.getElem?_eq_none (by lia)]
      refine ⟨F, x, st, some (.int (total R met : Int)), ?_⟩
      subst hLm
      simp [blks]
noncomputable def fillN (z : Nat) : List Int := match z with
  | 0 => []
  | z + 1 => (-((z + 1 : Nat) : Int)) :: zeros z
theorem c_copy {mem : List Int} {p : Nat → Nat} {R : Nat → List Cell} {S : Nat → Prop} {roots : List Cell} (H : Holds mem p R S) (hS : ∀ k, S k → k < 8) (hr : ∀ c ∈ roots, cellIn S c) (hl : roots.length ≤ 100) (hz : total R (liveN R roots) ≤ mem.length) :
    callD tab FU (n + 3) 13 [iL mem, iL (words p roots)] = some (.tuple [iL (blks (offs R (liveN R roots)) R (liveN R roots) ++ fillN (mem.length - total R (liveN R roots))), iL (words (offs R (liveN R roots)) roots)]) := by
  refine call_run (fd := fd_collected_by_copying) rfl rfl rfl rfl ?_
  have hnd := live_nodup R roots
  have hLdef : liveN R roots = closeN R 8 0 (addCs [] roots) := rfl
  have hpre : addCs [] roots <+: liveN R roots := close_pre 8 0 _
  have hsub := addCs_sub (S := S) (cs := roots) (met := []) (fun _ h => (nomatch h)) hr
  have ht := term_of hS H.cells 8 0 _ (addCs_nodup roots List.nodup_nil) hsub (by lia)
  generalize liveN R roots = L at hz hnd hLdef hpre ⊢
  have hml := H.small
  have hmem : mem.length ≤ lim := by unfold lim; lia
  have hF0 : FwdOk (List.replicate mem.length (-1)) p (offs R L) S [] mem.length := ⟨by simp, fun k hk => by
    have := (H.obj k hk).fits
    rw [if_neg (by simp), List.getElem?_replicate, if_pos (by lia)]⟩
  obtain ⟨F1, x1, st1, h1, hF1⟩ := loopA (n := n) H hnd hz (o1 := some (iL (words p roots))) (o2 := some (.int (mem.length : Int))) (o9 := none) (o10 := none) roots [] [] (List.replicate mem.length (-1)) [] none none (fun _ h => (nomatch h)) hr hpre rfl hF0 (by simp; lia)
  obtain ⟨F2, x2, st2, sc, h2⟩ := whileS (n := n) H hS hnd hz (o1 := some (iL (words p roots))) (o2 := some (.int (mem.length : Int))) (o6 := some (iL (words (offs R L) roots))) (o7 := x1) 8 0 (addCs [] roots) F1 none st1 FU (by decide) hsub ht hLdef.symm (by lia) hF1
  have e1 : total R [] = 0 := rfl
  simp only [List.nil_append, List.length_nil, List.drop_zero, e1, Nat.sub_zero] at h1
  simp only [List.take_zero, List.drop_zero, e1, show blks (offs R L) R [] = [] from rfl, List.nil_append] at h2
  have hst : startStore fd_collected_by_copying [iL mem, iL (words p roots)] = [some (iL mem), some (iL (words p roots)), none, none, none, none, none, none, none, none, none] := rfl
  rw [hst]
  refine step_next (s_assign' (d := .int (mem.length : Int)) (by exact (iL_len hmem))) ?_
  refine step_next (s_assign' (d := iL (zeros mem.length)) (by simp [q_int, q_var, q_repl, Store.get, iL_repl (show ((mem.length : Nat) : Int).natAbs ≤ 1048576 by lia), zeros])) ?_
  refine step_next (s_assign' (d := iL (List.replicate mem.length (-1))) (by exact (iL_repl (show ((mem.length : Nat) : Int).natAbs ≤ 1048576 by lia)))) ?_
  refine step_next (s_assign' (d := .int ((0 : Nat) : Int)) (by rfl)) ?_
  refine step_next (s_assign' (d := iL []) (by rfl)) ?_
  refine step_next ((s_forL' (d := iL (words p roots)) (by rfl) (iL_items (by rw [words_length]; unfold lim; lia))).trans h1) ?_
  refine step_next (s_assign' (d := .int ((0 : Nat) : Int)) (by rfl)) ?_
  refine step_next (s_while'.trans h2) ?_
  have hbl : (blks (offs R L) R L).length = total R L := blks_length ..
  by_cases hlt : total R L < mem.length
  · obtain ⟨z, hz'⟩ : ∃ z, mem.length - total R L = z + 1 := ⟨mem.length - total R L - 1, by lia⟩
    have hset : (blks (offs R L) R L ++ zeros (z + 1)).set (total R L) (((total R L : Int)) - (mem.length : Int)) = blks (offs R L) R L ++ fillN (z + 1) := by
      rw [← hbl, List.set_append_right _ _ (Nat.le_refl _), Nat.sub_self]
      congr 1
      unfold zeros fillN
      rw [List.replicate_succ, List.set_cons_zero]
      congr 1
      rw [hbl]; lia
    rw [hz']
    refine step_next (σ' := [some (iL mem), some (iL (words p roots)), some (.int (mem.length : Int)), some (iL (blks (offs R L) R L ++ fillN (z + 1))), some (iL F2), some (.int (total R L : Int)), some (iL (words (offs R L) roots)), x1, st2, sc, x2]) ((s_ite_t ?_).trans ?_) ?_
    · simp [dC_ex, q_var, den_cmp, Store.get, o_lt, hlt]
    · refine step_next (s_store' (d := .int ((total R L : Int) - (mem.length : Int))) (l := iL (blks (offs R L) R L ++ zeros (z + 1))) (k := .int (total R L : Int)) (l' := iL (blks (offs R L) R L ++ fillN (z + 1))) (by rfl) rfl (by rfl) ?_) ss_nil'
      rw [iL_set (by rw [List.length_append, hbl, zeros_length]; lia) (by rw [List.length_append, hbl, zeros_length]; unfold lim; lia), hset]
    · exact step_ret (s_ret' (by rfl))
  · have hz0 : mem.length - total R L = 0 := by lia
    rw [hz0]
    refine step_next (s_skip (by simp [dC_ex, q_var, den_cmp, Store.get, o_lt, hlt])) ?_
    exact step_ret (s_ret' (by simp [q_var, den_tuple, dEs_nil, dEs_cons, Store.get, zeros, fillN]))
end
end Mine

namespace Mine
open PySem
set_option autoImplicit false
set_option maxRecDepth 100000
noncomputable def cellOf (c : Int) : Cell := if c % 6 < 4 then .ptr (c % 6).toNat else .val (2 * (if c < 0 then -c else c))
noncomputable def cells (row : List Int) : List Cell := row.map cellOf
theorem cells_length (row : List Int) : (cells row).length = row.length := by simp [cells]
theorem cellOf_in {S : Nat → Prop} (h : ∀ k, k < 4 → S k) (c : Int) : cellIn S (cellOf c) := by
  unfold cellOf; split
  · exact h _ (by lia)
  · show (2 * (if c < 0 then -c else c)) % 2 = 0; lia
theorem cells_in {S : Nat → Prop} (h : ∀ k, k < 4 → S k) (row : List Int) : ∀ c ∈ cells row, cellIn S c := fun c hc => by
  obtain ⟨x, _, rfl⟩ := List.mem_map.mp hc; exact cellOf_in h x
theorem cells_ok (row : List Int) : ∀ c ∈ cells row, c.ok := fun c hc => ok_of_cellIn (S := fun _ => True) (cells_in (fun _ _ => trivial) row c hc)
theorem ptr_lt {row : List Int} {k : Nat} (h : Cell.ptr k ∈ cells row) : k < 4 := by
  obtain ⟨x, _, e⟩ := List.mem_map.mp h
  unfold cellOf at e
  split at e
  · cases e; lia
  · cases e
section
variable {n : Nat}
noncomputable def eltW : PE := .ite (.ex (.cmp .lt (.mod (.var 0) (.int 6)) (.int 4))) (.add (.mulc 2 (.idx (.var 1) (.mod (.var 0) (.int 6)))) (.int 1)) (.mulc 2 (.abs (.var 0)))
theorem compW {D : List (PyData × PyData)} {p : Nat → Nat} {Φ : Nat → List PyData → Option PyData} : ∀ (row : List Int), (∀ k, Cell.ptr k ∈ cells row → dictGet D (k : Int) = some (p k : Int)) →
    compD (fun _ => some true) (fun d => denE Φ eltW [some d, some (.dict D)]) (row.map .int) = some ((words p (cells row)).map .int)
  | [], _ => rfl
  | c :: row, h => by
    have ih := compW (Φ := Φ) row fun k hk => h k (.tail _ hk)
    have hm : c.fmod 6 = c % 6 := Int.fmod_eq_emod_of_nonneg c (by decide)
    have hc : denE Φ eltW [some (.int c), some (.dict D)] = some (.int ((cellOf c).word p)) := by
      by_cases hlt : c % 6 < 4
      · have e : cellOf c = .ptr (c % 6).toNat := by unfold cellOf; rw [if_pos hlt]
        have hd := h (c % 6).toNat (by rw [← e]; exact .head _)
        rw [show (((c % 6).toNat : Nat) : Int) = c % 6 by lia] at hd
        rw [e]
        simp only [eltW, q_int, q_var, q_add, q_mulc, q_mod, den_cmp, q_ite, den_idx, q_abs, dC_ex, Store.get, List.getElem?_cons_zero, List.getElem?_cons_succ, Option.join_some, Option.bind_some, o_mod, hm, o_lt, Option.map_some, hlt, decide_true, if_true, o_iD, hd, o_mulc, o_add, Cell.word, show ¬ ((6 : Int) = 0) by decide, if_false, show ((2 : Int).natAbs < 4294967296) by decide]
      · have e : cellOf c = .val (2 * (if c < 0 then -c else c)) := by unfold cellOf; rw [if_neg hlt]
        rw [e]
        simp only [eltW, q_int, q_var, q_add, q_mulc, q_mod, den_cmp, q_ite, den_idx, q_abs, dC_ex, Store.get, List.getElem?_cons_zero, List.getElem?_cons_succ, Option.join_some, Option.bind_some, o_mod, hm, o_lt, Option.map_some, hlt, decide_false, Bool.false_eq_true, if_false, o_abs, o_mulc, Cell.word, show ¬ ((6 : Int) = 0) by decide, show ((2 : Int).natAbs < 4294967296) by decide, if_true]
    show compD _ _ (PyData.int c :: row.map .int) = _
    rw [compD]
    simp only [PyData.canLay0, if_true, hc, ih]
    rfl
theorem c_words {row : List Int} {D : List (PyData × PyData)} {p : Nat → Nat} (h : ∀ k, Cell.ptr k ∈ cells row → dictGet D (k : Int) = some (p k : Int)) (hl : row.length ≤ 900) : callD tab FU (n + 1) 16 [iL row, .dict D] = some (iL (words p (cells row))) := by
  refine call_run (fd := fd_law_words) rfl rfl rfl rfl (step_ret (s_ret' ?_))
  exact e_comp' (d := iL row) (by rfl) (iL_items (by unfold lim; lia)) (compW row h)
noncomputable def nL (ks : List Nat) : List Int := ks.map fun (k : Nat) => (k : Int)
noncomputable def plist (wd : Nat → Int) : List Nat → Int → List (Int × Int)
  | [], _ => []
  | k :: ks, at_ => ((k : Int), at_) :: plist wd ks (at_ + wd k)
noncomputable def dP (wd : Nat → Int) (ks : List Nat) (at_ : Int) : List (PyData × PyData) := (plist wd ks at_).map fun q => (.int q.1, .int q.2)
noncomputable def plI (wd : Nat → Int) : List Nat → Int → Nat → Int
  | [], at_, _ => at_
  | k :: ks, at_, j => if k = j then at_ else plI wd ks (at_ + wd k) j
theorem dict_get {wd : Nat → Int} : ∀ (ks : List Nat) (at_ : Int) (j : Nat), j ∈ ks → dictGet (dP wd ks at_) (j : Int) = some (plI wd ks at_ j)
  | k :: ks, at_, j, h => by
    unfold dP plist plI
    simp only [List.map_cons, o_dg]
    by_cases hk : k = j
    · subst hk; simp
    · rw [if_neg (by lia), if_neg hk]
      exact dict_get ks _ j ((List.mem_cons.mp h).resolve_left fun q => hk q.symm)
noncomputable def tupP (q : Int × Int) : PyData := .tuple [.int q.1, .int q.2]
theorem pairs_all (qs : List (Int × Int)) : allSome pairOf (qs.map tupP) = some qs := by
  induction qs with
  | nil => rfl
  | cons q qs ih => exact o_as rfl ih
theorem plist_keys (wd : Nat → Int) : ∀ (ks : List Nat) (at_ : Int), (plist wd ks at_).map (·.1) = nL ks
  | [], _ => rfl
  | k :: ks, at_ => by simp only [plist, List.map_cons, nL]; rw [plist_keys wd ks]; rfl
theorem plist_length (wd : Nat → Int) : ∀ (ks : List Nat) (at_ : Int), (plist wd ks at_).length = ks.length
  | [], _ => rfl
  | k :: ks, at_ => by simp [plist, plist_length wd ks]
theorem loopP {wide : List Int} {wd : Nat → Int} {o0 : Option PyData} {Φ : Nat → List PyData → Option PyData} {fuel : Nat} : ∀ (ks : List Nat) (acc : List (Int × Int)) (at_ : Int) (x : Option PyData), (∀ k ∈ ks, wide[k]? = some (wd k) ∧ k < 900) → acc.length + ks.length ≤ 900 →
    ∃ x' a', loopD (denSs Φ fuel (.cons (.append 2 (.tuple (.cons (.var 4) (.cons (.var 3) .nil)))) (.cons (.assign 3 (.add (.var 3) (.idx (.var 1) (.var 4)))) .nil))) 4 ((nL ks).map .int) [o0, some (iL wide), some (.list (acc.map tupP)), some (.int at_), x] = some (.next [o0, some (iL wide), some (.list ((acc ++ plist wd ks at_).map tupP)), a', x'])
  | [], acc, at_, x, _, _ => ⟨x, some (.int at_), by simp [plist, nL, o_l0]⟩
  | k :: ks, acc, at_, x, h, hl => by
    simp only [List.length_cons] at hl
    obtain ⟨x', a', ih⟩ := loopP (o0 := o0) (wide := wide) (wd := wd) (Φ := Φ) (fuel := fuel) ks (acc ++ [((k : Int), at_)]) (at_ + wd k) (some (.int (k : Int))) (fun j hj => h j (.tail _ hj)) (by simp; lia)
    refine ⟨x', a', ?_⟩
    show loopD _ 4 (PyData.int (k : Int) :: (nL ks).map .int) _ = _
    rw [loopD]
    have hbody : denSs Φ fuel (.cons (.append 2 (.tuple (.cons (.var 4) (.cons (.var 3) .nil)))) (.cons (.assign 3 (.add (.var 3) (.idx (.var 1) (.var 4)))) .nil)) [o0, some (iL wide), some (.list (acc.map tupP)), some (.int at_), some (.int (k : Int))] = some (.next [o0, some (iL wide), some (.list ((acc ++ [((k : Int), at_)]).map tupP)), some (.int (at_ + wd k)), some (.int (k : Int))]) := by
      refine step_next (s_append' (l := .list (acc.map tupP)) (d := tupP ((k : Int), at_)) (l' := .list ((acc ++ [((k : Int), at_)]).map tupP)) rfl (by simp [q_var, den_tuple, dEs_nil, dEs_cons, Store.get, tupP]) (by simp [o_ap, lim]; lia)) ?_
      refine step_next (s_assign' (d := .int (at_ + wd k)) ?_) ss_nil'
      exact via rfl (via (iL_idx (h k (.head _)).1 (show k < 1048576 by have := (h k (.head _)).2; lia)) rfl)
    simp only [List.set_cons_succ, List.set_cons_zero]
    rw [hbody]
    simp only
    rw [ih]
    simp [plist]
theorem nL_nodup {ks : List Nat} (h : ks.Nodup) : (nL ks).Nodup := by
  unfold nL
  exact List.Pairwise.map _ (fun a b e q => e (by lia)) h
theorem c_places {order : List Nat} {wide : List Int} {wd : Nat → Int} (hw : ∀ k ∈ order, wide[k]? = some (wd k) ∧ k < 900) (hn : order.Nodup) (hl : order.length ≤ 60) : callD tab FU (n + 1) 17 [iL (nL order), iL wide] = some (.dict (dP wd order 0)) := by
  refine call_run (fd := fd_law_places) rfl rfl rfl rfl ?_
  rw [show startStore fd_law_places [iL (nL order), iL wide] = [some (iL (nL order)), some (iL wide), none, none, none] from rfl]
  obtain ⟨x', a', h⟩ := loopP (o0 := some (iL (nL order))) (wide := wide) (wd := wd) (Φ := callD tab FU n) (fuel := FU) order [] 0 none hw (by simp; lia)
  refine step_next (s_assign' (d := .list []) (by rfl)) ?_
  refine step_next (s_assign' (d := .int 0) (by rfl)) ?_
  refine step_next ((s_forL' (d := iL (nL order)) (by rfl) (iL_items (by simp [nL]; unfold lim; lia))).trans h) ?_
  refine step_ret (s_ret' ?_)
  simp only [q_var, q_dictOf, Store.get, List.getElem?_cons_zero, List.getElem?_cons_succ, Option.join_some, Option.bind_some, o_do, List.nil_append]
  rw [if_pos (by rw [List.length_map, plist_length]; lia), pairs_all]
  simp only
  rw [if_pos (by rw [plist_keys]; exact nL_nodup hn)]
  rfl
end
end Mine

namespace Mine
open PySem
set_option autoImplicit false
set_option maxRecDepth 100000
noncomputable def fill1 (g : Int) : List Int := [-g].take (clampI 1 g)
noncomputable def fill2 (g : Int) : List Int := List.replicate (g - 1).toNat 0
theorem fill_eq (g : Int) : fill1 g ++ fill2 g = fillN g.toNat := by
  unfold fill1 fill2 clampI
  by_cases h : g < 0
  · rw [if_pos h, show (g + ((1 : Nat) : Int)).toNat = 0 by lia, show (g - 1).toNat = 0 by lia, show g.toNat = 0 by lia]; rfl
  · rw [if_neg h]
    cases hz : g.toNat with
    | zero => rw [show (g - 1).toNat = 0 by lia]; rfl
    | succ z =>
      rw [show min (z + 1) 1 = 1 by lia, show (g - 1).toNat = z by lia]
      simp only [List.take_succ_cons, List.take_zero, List.cons_append, List.nil_append, fillN, zeros]
      congr 1; lia
theorem fillN_length (z : Nat) : (fillN z).length = z := by cases z <;> simp [fillN, zeros]
theorem fill1_len (g : Int) : (fill1 g).length ≤ 1 := by unfold fill1; simp; lia
theorem fill2_len (g : Int) : (fill2 g).length = (g - 1).toNat := by simp [fill2]
noncomputable def heapGo (kept : List Nat) (p : Nat → Nat) (rowOf : Nat → List Int) (wd : Nat → Int) : List Nat → Int → List Int
  | [], g => fillN g.toNat
  | k :: ks, g => if k ∈ kept then fillN g.toNat ++ (((rowOf k).length : Int) :: words p (cells (rowOf k))) ++ heapGo kept p rowOf wd ks 0 else heapGo kept p rowOf wd ks (g + wd k)
section
variable {n : Nat}
theorem mem_nL {kept : List Nat} {k : Nat} : (k : Int) ∈ nL kept ↔ k ∈ kept := by
  unfold nL
  constructor
  · intro h
    obtain ⟨j, hj, e⟩ := List.mem_map.mp h
    have : j = k := by lia
    exact this ▸ hj
  · intro h; exact List.mem_map.mpr ⟨k, h, rfl⟩
noncomputable def eF1 : PE := .slH (.list (.cons (.neg (.var 6)) .nil)) (.var 6)
noncomputable def eF2 : PE := .repl (.int 0) (.sub (.var 6) (.int 1))
noncomputable def bodyH : PSs := .cons (.ite (.ex (.cmp .isin (.var 7) (.var 3))) (.cons (.assign 5 (.cat (.cat (.cat (.cat (.var 5) eF1) eF2) (.list (.cons (.len (.idx (.var 1) (.var 7))) .nil))) (.call 16 (.cons (.idx (.var 1) (.var 7)) (.cons (.var 4) .nil))))) (.cons (.assign 6 (.int 0)) .nil)) (.cons (.assign 6 (.add (.var 6) (.idx (.var 2) (.var 7)))) .nil)) .nil
theorem den_F {Φ : Nat → List PyData → Option PyData} {o0 o1 o2 o3 o4 o7 : Option PyData} {laid : List Int} {g : Int} (hl : laid.length ≤ 900) (hg : g.natAbs ≤ 900) :
    denE Φ (.cat (.cat (.var 5) eF1) eF2) [o0, o1, o2, o3, o4, some (iL laid), some (.int g), o7] = some (iL (laid ++ fillN g.toNat)) := by
  have h1 : denE Φ eF1 [o0, o1, o2, o3, o4, some (iL laid), some (.int g), o7] = some (iL (fill1 g)) := by
    simp only [eF1, q_var, q_neg, q_slH, q_list, dEs_nil, dEs_cons, Store.get, List.getElem?_cons_zero, List.getElem?_cons_succ, Option.join_some, Option.bind_some, o_neg, List.length_cons, List.length_nil]
    rw [if_pos (by decide)]
    simp only [Option.bind_some]
    rw [show PyData.list [PyData.int (-g)] = iL [-g] from rfl, iL_slH (by unfold lim; simp)]
    rfl
  have h2 : denE Φ eF2 [o0, o1, o2, o3, o4, some (iL laid), some (.int g), o7] = some (iL (fill2 g)) := by
    simp only [eF2, q_int, q_var, q_sub, q_repl, Store.get, List.getElem?_cons_zero, List.getElem?_cons_succ, Option.join_some, Option.bind_some, o_sub]
    rw [iL_repl (by lia)]; rfl
  have e1 := fill1_len g
  have e2 := fill2_len g
  rw [den_cat, den_cat, h1, h2]
  simp only [q_var, Store.get, List.getElem?_cons_zero, List.getElem?_cons_succ, Option.join_some, Option.bind_some]
  rw [iL_cat (by unfold lim; lia)]
  simp only [Option.bind_some]
  rw [iL_cat (by rw [List.length_append]; unfold lim; lia), List.append_assoc, fill_eq]
theorem loopH {order : List Nat} {rows : List (List Int)} {wide : List Int} {wd : Nat → Int} {kept : List Nat} {p : Nat → Nat} {rowOf : Nat → List Int} {D : List (PyData × PyData)} {o0 : Option PyData}
    (hrow : ∀ k ∈ kept, rows[k]? = some (rowOf k) ∧ (rowOf k).length ≤ 100 ∧ ∀ j, Cell.ptr j ∈ cells (rowOf k) → dictGet D (j : Int) = some (p j : Int)) : ∀ (ks : List Nat) (laid : List Int) (g : Int) (x : Option PyData), (∀ k ∈ ks, wide[k]? = some (wd k) ∧ k < 900 ∧ (wd k).natAbs ≤ 20) → (laid ++ heapGo kept p rowOf wd ks g).length ≤ 900 → g.natAbs + 20 * ks.length ≤ 900 →
    ∃ laid' g' x', loopD (denSs (callD tab FU (n + 1)) FU bodyH) 7 ((nL ks).map .int) [o0, some (iLL rows), some (iL wide), some (iL (nL kept)), some (.dict D), some (iL laid), some (.int g), x] = some (.next [o0, some (iLL rows), some (iL wide), some (iL (nL kept)), some (.dict D), some (iL laid'), some (.int g'), x']) ∧ laid' ++ fillN g'.toNat = laid ++ heapGo kept p rowOf wd ks g ∧ g'.natAbs ≤ 900
  | [], laid, g, x, _, _, hg => ⟨laid, g, x, rfl, rfl, by simp at hg; lia⟩
  | k :: ks, laid, g, x, hw, hl, hg => by
    simp only [List.length_cons] at hg
    obtain ⟨hwk, hk9, hwa⟩ := hw k (.head _)
    by_cases hk : k ∈ kept
    · obtain ⟨hr1, hr2, hr3⟩ := hrow k hk
      have e : heapGo kept p rowOf wd (k :: ks) g = fillN g.toNat ++ (((rowOf k).length : Int) :: words p (cells (rowOf k))) ++ heapGo kept p rowOf wd ks 0 := by rw [heapGo, if_pos hk]
      rw [e] at hl
      have hl2 : (laid ++ (fillN g.toNat ++ (((rowOf k).length : Int) :: words p (cells (rowOf k)))) ++ heapGo kept p rowOf wd ks 0).length ≤ 900 := by simpa [List.append_assoc] using hl
      obtain ⟨laid', g', x', ih1, ih2, ih3⟩ := loopH (order := order) (o0 := o0) hrow ks (laid ++ (fillN g.toNat ++ (((rowOf k).length : Int) :: words p (cells (rowOf k))))) 0 (some (.int (k : Int))) (fun j hj => hw j (.tail _ hj)) hl2 (by lia)
      refine ⟨laid', g', x', ?_, by rw [ih2, e]; simp [List.append_assoc], ih3⟩
      show loopD _ 7 (PyData.int (k : Int) :: (nL ks).map .int) _ = _
      rw [loopD]
      have hll : laid.length + (g.toNat + ((rowOf k).length + 1)) ≤ 900 := by
        simp only [List.length_append, List.length_cons, words_length, cells_length, fillN_length] at hl2; lia
      have hbody : denSs (callD tab FU (n + 1)) FU bodyH [o0, some (iLL rows), some (iL wide), some (iL (nL kept)), some (.dict D), some (iL laid), some (.int g), some (.int (k : Int))] = some (.next [o0, some (iLL rows), some (iL wide), some (iL (nL kept)), some (.dict D), some (iL (laid ++ (fillN g.toNat ++ (((rowOf k).length : Int) :: words p (cells (rowOf k)))))), some (.int 0), some (.int (k : Int))]) := by
        refine step_next ((s_ite_t ?_).trans ?_) ss_nil'
        · simp [dC_ex, q_var, den_cmp, Store.get, cmp_in, mem_nL, hk]
        · refine step_next (s_assign' (d := iL (laid ++ (fillN g.toNat ++ (((rowOf k).length : Int) :: words p (cells (rowOf k)))))) ?_) (step_next (s_assign' (d := .int 0) (by rfl)) ss_nil')
          have hF := den_F (Φ := callD tab FU (n + 1)) (o0 := o0) (o1 := some (iLL rows)) (o2 := some (iL wide)) (o3 := some (iL (nL kept))) (o4 := some (.dict D)) (o7 := some (.int (k : Int))) (laid := laid) (g := g) (by lia) (by lia)
          have hidx := iLL_idx hr1 (show k < 1048576 by lia)
          have hw16 := c_words (n := n) hr3 (by lia)
          rw [den_cat, den_cat, hF]
          simp only [q_var, den_idx, q_list, q_call, q_len, dEs_nil, dEs_cons, Store.get, List.getElem?_cons_zero, List.getElem?_cons_succ, Option.join_some, Option.bind_some, hidx, iL_len (show (rowOf k).length ≤ lim by unfold lim; lia), List.length_cons, List.length_nil, hw16]
          rw [if_pos (by decide)]
          simp only [Option.bind_some]
          rw [show PyData.list [PyData.int ((rowOf k).length : Int)] = iL [((rowOf k).length : Int)] from rfl, iL_cat (by simp [fillN_length]; unfold lim; lia)]
          simp only [Option.bind_some]
          rw [iL_cat (by simp [fillN_length, words_length, cells_length]; unfold lim; lia)]
          simp [List.append_assoc]
      simp only [List.set_cons_succ, List.set_cons_zero]
      rw [hbody]
      exact ih1
    · have e : heapGo kept p rowOf wd (k :: ks) g = heapGo kept p rowOf wd ks (g + wd k) := by rw [heapGo, if_neg hk]
      rw [e] at hl
      obtain ⟨laid', g', x', ih1, ih2, ih3⟩ := loopH (order := order) (o0 := o0) hrow ks laid (g + wd k) (some (.int (k : Int))) (fun j hj => hw j (.tail _ hj)) hl (by lia)
      refine ⟨laid', g', x', ?_, by rw [ih2, e], ih3⟩
      show loopD _ 7 (PyData.int (k : Int) :: (nL ks).map .int) _ = _
      rw [loopD]
      have hbody : denSs (callD tab FU (n + 1)) FU bodyH [o0, some (iLL rows), some (iL wide), some (iL (nL kept)), some (.dict D), some (iL laid), some (.int g), some (.int (k : Int))] = some (.next [o0, some (iLL rows), some (iL wide), some (iL (nL kept)), some (.dict D), some (iL laid), some (.int (g + wd k)), some (.int (k : Int))]) := by
        refine step_next ((s_ite_f ?_).trans ?_) ss_nil'
        · simp [dC_ex, q_var, den_cmp, Store.get, cmp_in, mem_nL, hk]
        · refine step_next (s_assign' (d := .int (g + wd k)) ?_) ss_nil'
          exact via rfl (via (iL_idx hwk (show k < 1048576 by lia)) rfl)
      simp only [List.set_cons_succ, List.set_cons_zero]
      rw [hbody]
      exact ih1
theorem c_heap {order : List Nat} {rows : List (List Int)} {wide : List Int} {wd : Nat → Int} {kept : List Nat} {p : Nat → Nat} {rowOf : Nat → List Int}
    (hw : ∀ k ∈ order, wide[k]? = some (wd k) ∧ k < 900 ∧ (wd k).natAbs ≤ 20) (hn : order.Nodup) (hlo : order.length ≤ 40) (hrow : ∀ k ∈ kept, rows[k]? = some (rowOf k) ∧ (rowOf k).length ≤ 100 ∧ ∀ j, Cell.ptr j ∈ cells (rowOf k) → dictGet (dP wd order 0) (j : Int) = some (p j : Int))
    (hl : (heapGo kept p rowOf wd order 0).length ≤ 900) : callD tab FU (n + 2) 18 [iL (nL order), iLL rows, iL wide, iL (nL kept)] = some (iL (heapGo kept p rowOf wd order 0)) := by
  refine call_run (fd := fd_law_heap) rfl rfl rfl rfl ?_
  rw [show startStore fd_law_heap [iL (nL order), iLL rows, iL wide, iL (nL kept)] = [some (iL (nL order)), some (iLL rows), some (iL wide), some (iL (nL kept)), none, none, none, none] from rfl]
  have hp := c_places (n := n) (order := order) (wide := wide) (wd := wd) (fun k hk => ⟨(hw k hk).1, (hw k hk).2.1⟩) hn (by lia)
  obtain ⟨laid', g', x', h1, h2, h3⟩ := loopH (n := n) (order := order) (o0 := some (iL (nL order))) (wide := wide) hrow order [] 0 none hw (by simpa using hl) (by simp; lia)
  refine step_next (s_assign' (d := .dict (dP wd order 0)) (by exact hp)) ?_
  refine step_next (s_assign' (d := iL []) (by rfl)) ?_
  refine step_next (s_assign' (d := .int 0) (by rfl)) ?_
  refine step_next ((s_forL' (d := iL (nL order)) (by rfl) (iL_items (by simp [nL]; unfold lim; lia))).trans h1) ?_
  refine step_ret (s_ret' ?_)
  rw [List.nil_append] at h2
  have hll : laid'.length ≤ 900 := by
    have := congrArg List.length h2
    rw [List.length_append] at this
    lia
  rw [← h2]
  exact den_F hll h3
end
end Mine

namespace Mine
open PySem
set_option autoImplicit false
set_option maxRecDepth 100000
noncomputable def bfs (R : Nat → List Cell) : Nat → List Nat → List Cell → List Nat
  | 0, met, _ => met
  | _ + 1, met, [] => met
  | f + 1, met, .val _ :: q => bfs R f met q
  | f + 1, met, .ptr k :: q => if k ∈ met then bfs R f met q else bfs R f (met ++ [k]) (q ++ R k)
theorem bfs_nil (R : Nat → List Cell) (f : Nat) (met : List Nat) : bfs R f met [] = met := by cases f <;> rfl
theorem bfs_adds {R : Nat → List Cell} : ∀ (rest : List Cell) (met : List Nat) (f p : Nat), p ≤ met.length → bfs R (rest.length + f) met (rest ++ (met.drop p).flatMap R) = bfs R f (addCs met rest) (((addCs met rest).drop p).flatMap R)
  | [], met, f, p, _ => by simp [addCs]
  | .val v :: rest, met, f, p, hp => by
    rw [List.length_cons, show rest.length + 1 + f = (rest.length + f) + 1 by lia, List.cons_append, bfs]
    exact bfs_adds rest met f p hp
  | .ptr k :: rest, met, f, p, hp => by
    rw [List.length_cons, show rest.length + 1 + f = (rest.length + f) + 1 by lia, List.cons_append, bfs]
    by_cases hk : k ∈ met
    · rw [if_pos hk, show addCs met (.ptr k :: rest) = addCs met rest by simp [addCs, addC, hk]]
      exact bfs_adds rest met f p hp
    · rw [if_neg hk, show addCs met (.ptr k :: rest) = addCs (met ++ [k]) rest by simp [addCs, addC, hk]]
      have := bfs_adds (R := R) rest (met ++ [k]) f p (by simp; lia)
      rw [List.drop_append_of_le_length hp, List.flatMap_append] at this
      rw [← this]
      simp [List.append_assoc]
noncomputable def rsum (R : Nat → List Cell) (ks : List Nat) : Nat := (ks.map fun k => (R k).length).sum
theorem bfs_close {R : Nat → List Cell} : ∀ (f p : Nat) (met : List Nat) (g : Nat), termN R f p met → p ≤ met.length → bfs R (rsum R ((closeN R f p met).drop p) + g) met ((met.drop p).flatMap R) = closeN R f p met
  | 0, p, met, g, ht, hp => by
    have ht' : met[p]? = none := ht
    have : met.length ≤ p := List.getElem?_eq_none_iff.mp ht'
    rw [List.drop_eq_nil_of_le this]
    exact bfs_nil ..
  | f + 1, p, met, g, ht, hp => by
    unfold termN at ht
    cases e : met[p]? with
    | none =>
      have : met.length ≤ p := List.getElem?_eq_none_iff.mp e
      rw [List.drop_eq_nil_of_le this]
      have hc : closeN R (f + 1) p met = met := by rw [closeN, e]
      rw [hc]
      exact bfs_nil ..
    | some k =>
      rw [e] at ht
      have hlt : p < met.length := (List.getElem?_eq_some_iff.mp e).1
      have hc : closeN R (f + 1) p met = closeN R f (p + 1) (addCs met (R k)) := by rw [closeN, e]
      have hg := addCs_grow (R k) met
      have hLp : (closeN R f (p + 1) (addCs met (R k)))[p]? = some k := prefix_get ((addCs_pre (R k) met).trans (close_pre f (p + 1) _)) e
      have hLlt := (List.getElem?_eq_some_iff.mp hLp).1
      have hLe := (List.getElem?_eq_some_iff.mp hLp).2
      have ih := bfs_close f (p + 1) (addCs met (R k)) g ht (by lia)
      rw [hc, List.drop_eq_getElem_cons hLlt, hLe]
      have hmd : met.drop p = k :: met.drop (p + 1) := by rw [List.drop_eq_getElem_cons hlt, (List.getElem?_eq_some_iff.mp e).2]
      rw [hmd, List.flatMap_cons]
      have ha := bfs_adds (R := R) (R k) met (rsum R ((closeN R f (p + 1) (addCs met (R k))).drop (p + 1)) + g) (p + 1) (by lia)
      rw [ih] at ha
      have hf : rsum R (k :: (closeN R f (p + 1) (addCs met (R k))).drop (p + 1)) + g = (R k).length + (rsum R ((closeN R f (p + 1) (addCs met (R k))).drop (p + 1)) + g) := by
        simp only [rsum, List.map_cons, List.sum_cons]; lia
      rw [hf]
      exact ha
theorem rsum_le {R : Nat → List Cell} {b : Nat} : ∀ (ks : List Nat), (∀ k ∈ ks, (R k).length ≤ b) → rsum R ks ≤ b * ks.length
  | [], _ => by simp [rsum]
  | k :: ks, h => by
    have := rsum_le ks fun j hj => h j (.tail _ hj)
    have h1 := h k (.head _)
    simp only [rsum, List.map_cons, List.sum_cons, List.length_cons] at this ⊢
    rw [Nat.mul_succ]; lia
theorem live_bfs {R : Nat → List Cell} {S : Nat → Prop} (hS : ∀ k, S k → k < 4) (hR : ∀ k, S k → ∀ c ∈ R k, cellIn S c) (h2 : ∀ k, S k → (R k).length ≤ 2) {roots : List Cell} (hr : ∀ c ∈ roots, cellIn S c) (h3 : roots.length ≤ 3) : bfs R 11 [] roots = liveN R roots := by
  have hS8 : ∀ k, S k → k < 8 := fun k hk => by have := hS k hk; lia
  have hsub := addCs_sub (S := S) (cs := roots) (met := []) (fun _ h => (nomatch h)) hr
  have ht := term_of hS8 hR 8 0 _ (addCs_nodup roots List.nodup_nil) hsub (by lia)
  have hLS := live_sub (roots := roots) hR hr
  have hb : rsum R (liveN R roots) ≤ 2 * (liveN R roots).length := rsum_le _ fun k hk => h2 k (hLS k hk)
  have hl4 : (liveN R roots).length ≤ 4 := nodup_bound (live_nodup R roots) fun k hk => hS k (hLS k hk)
  have h1 := bfs_adds (R := R) roots [] (11 - roots.length) 0 (by simp)
  rw [show roots.length + (11 - roots.length) = 11 by lia] at h1
  simp only [List.drop_nil, List.flatMap_nil, List.append_nil, List.drop_zero] at h1
  rw [h1]
  have h4 := bfs_close (R := R) 8 0 (addCs [] roots) (11 - roots.length - rsum R (liveN R roots)) ht (by lia)
  rw [List.drop_zero, List.drop_zero] at h4
  have e : rsum R (closeN R 8 0 (addCs [] roots)) + (11 - roots.length - rsum R (liveN R roots)) = 11 - roots.length := by
    show rsum R (liveN R roots) + _ = _
    lia
  rw [e] at h4
  exact h4
section
variable {n : Nat}
noncomputable def cLV : PE := .mod (.idx (.var 2) (.var 4)) (.int 6)
noncomputable def bodyL : PSs := .cons (.ite (.and (.ex (.cmp .lt (.var 4) (.len (.var 2)))) (.and (.ex (.cmp .lt cLV (.int 4))) (.ex (.cmp .notin cLV (.var 3))))) (.cons (.append 3 cLV) (.cons (.assign 2 (.cat (.var 2) (.idx (.var 1) cLV))) .nil)) .nil) .nil
theorem loopL {rows : List (List Int)} {rowOf : Nat → List Int} (hrow : ∀ k, k < 4 → rows[k]? = some (rowOf k) ∧ (rowOf k).length ≤ 2) {o0 : Option PyData} {Φ : Nat → List PyData → Option PyData} {fuel : Nat} : ∀ (t i : Nat) (todo : List Int) (met : List Nat) (x : Option PyData), todo.length + 2 * t ≤ 900 → met.length + t ≤ 900 → i + t ≤ 900 →
    ∃ todo' x', loopD (denSs Φ fuel bodyL) 4 (((List.range t).map (fun j => i + j)).map fun (j : Nat) => PyData.int (j : Int)) [o0, some (iLL rows), some (iL todo), some (iL (nL met)), x] = some (.next [o0, some (iLL rows), some (iL todo'), some (iL (nL (bfs (fun k => cells (rowOf k)) t met (cells (todo.drop i))))), x'])
  | 0, i, todo, met, x, _, _, _ => ⟨todo, x, rfl⟩
  | t + 1, i, todo, met, x, hl, hm, hi => by
    rw [range_from, ]
    have skip : ∀ (hb : denSs Φ fuel bodyL [o0, some (iLL rows), some (iL todo), some (iL (nL met)), some (.int (i : Int))] = some (.next [o0, some (iLL rows), some (iL todo), some (iL (nL met)), some (.int (i : Int))])) (hq : bfs (fun k => cells (rowOf k)) (t + 1) met (cells (todo.drop i)) = bfs (fun k => cells (rowOf k)) t met (cells (todo.drop (i + 1)))),
        ∃ todo' x', loopD (denSs Φ fuel bodyL) 4 (PyData.int (i : Int) :: (((List.range t).map (fun j => (i + 1) + j)).map fun (j : Nat) => PyData.int (j : Int))) [o0, some (iLL rows), some (iL todo), some (iL (nL met)), x] = some (.next [o0, some (iLL rows), some (iL todo'), some (iL (nL (bfs (fun k => cells (rowOf k)) (t + 1) met (cells (todo.drop i))))), x']) := by
      intro hb hq
      obtain ⟨todo', x', ih⟩ := loopL hrow (o0 := o0) (Φ := Φ) (fuel := fuel) t (i + 1) todo met (some (.int (i : Int))) (by lia) (by lia) (by lia)
      refine ⟨todo', x', ?_⟩
      rw [loopD]
      simp only [List.set_cons_succ, List.set_cons_zero]
      rw [hb, hq]
      exact ih
    have hlen : todo.length ≤ lim := by unfold lim; lia
    by_cases hit : i < todo.length
    · have hget : todo[i]? = some todo[i] := List.getElem?_eq_getElem hit
      have hdrop : todo.drop i = todo[i] :: todo.drop (i + 1) := List.drop_eq_getElem_cons hit
      have hmod : (todo[i]).fmod 6 = todo[i] % 6 := Int.fmod_eq_emod_of_nonneg _ (by decide)
      have hcv : ∀ (z : Option PyData), denE Φ cLV [o0, some (iLL rows), some (iL todo), z, some (.int (i : Int))] = some (.int (todo[i] % 6)) := by
        intro z
        simp only [cLV, q_int, q_var, q_mod, den_idx, Store.get, List.getElem?_cons_zero, List.getElem?_cons_succ, Option.join_some, Option.bind_some, iL_idx hget (show i < 1048576 by lia), o_mod, hmod, show ¬ ((6 : Int) = 0) by decide, if_false]
      have hc1 : denC Φ (.ex (.cmp .lt (.var 4) (.len (.var 2)))) [o0, some (iLL rows), some (iL todo), some (iL (nL met)), some (.int (i : Int))] = some true := by
        simp [dC_ex, q_var, den_cmp, q_len, Store.get, iL_len hlen, o_lt, hit]
      have hc2 : denC Φ (.ex (.cmp .lt cLV (.int 4))) [o0, some (iLL rows), some (iL todo), some (iL (nL met)), some (.int (i : Int))] = some (decide (todo[i] % 6 < 4)) := by
        rw [dC_ex, den_cmp, hcv]; rfl
      have hc3 : denC Φ (.ex (.cmp .notin cLV (.var 3))) [o0, some (iLL rows), some (iL todo), some (iL (nL met)), some (.int (i : Int))] = some (!decide (todo[i] % 6 ∈ nL met)) := by
        rw [dC_ex, den_cmp, hcv]; simp [q_var, Store.get, cmp_notin]
      by_cases hp : todo[i] % 6 < 4
      · have hcell : cellOf todo[i] = .ptr (todo[i] % 6).toNat := by unfold cellOf; rw [if_pos hp]
        have hk : (((todo[i] % 6).toNat : Nat) : Int) = todo[i] % 6 := by lia
        have hk4 : (todo[i] % 6).toNat < 4 := by lia
        by_cases hmem : (todo[i] % 6).toNat ∈ met
        · have hmem' : todo[i] % 6 ∈ nL met := by rw [← hk]; exact mem_nL.mpr hmem
          refine skip (step_next (s_skip ?_) ss_nil') ?_
          · rw [dC_and, hc1]; simp only [Option.bind_some, if_true]; rw [dC_and, hc2, hc3]; simp [hp, hmem']
          · rw [hdrop]; simp only [cells, List.map_cons, hcell]; rw [bfs, if_pos hmem]
        · have hmem' : ¬ todo[i] % 6 ∈ nL met := by rw [← hk]; exact fun q => hmem (mem_nL.mp q)
          obtain ⟨hr1, hr2⟩ := hrow _ hk4
          obtain ⟨todo', x', ih⟩ := loopL hrow (o0 := o0) (Φ := Φ) (fuel := fuel) t (i + 1) (todo ++ rowOf (todo[i] % 6).toNat) (met ++ [(todo[i] % 6).toNat]) (some (.int (i : Int))) (by simp; lia) (by simp; lia) (by lia)
          refine ⟨todo', x', ?_⟩
          rw [loopD]
          have hbody : denSs Φ fuel bodyL [o0, some (iLL rows), some (iL todo), some (iL (nL met)), some (.int (i : Int))] = some (.next [o0, some (iLL rows), some (iL (todo ++ rowOf (todo[i] % 6).toNat)), some (iL (nL (met ++ [(todo[i] % 6).toNat]))), some (.int (i : Int))]) := by
            refine step_next ((s_ite_t ?_).trans ?_) ss_nil'
            · rw [dC_and, hc1]; simp only [Option.bind_some, if_true]; rw [dC_and, hc2, hc3]; simp [hp, hmem']
            · refine step_next (s_append' (l := iL (nL met)) (d := .int (todo[i] % 6)) (l' := iL (nL (met ++ [(todo[i] % 6).toNat]))) rfl (hcv _) ?_) ?_
              · rw [iL_append (by simp [nL]; unfold lim; lia)]; simp [nL, hk]
              · refine step_next (s_assign' (d := iL (todo ++ rowOf (todo[i] % 6).toNat)) ?_) ss_nil'
                have hidx := iLL_idx hr1 (show (todo[i] % 6).toNat < 1048576 by lia)
                rw [hk] at hidx
                simp only [List.set_cons_succ, List.set_cons_zero]
                rw [den_cat, show denE Φ ((PE.var 1).idx cLV) [o0, some (iLL rows), some (iL todo), some (iL (nL (met ++ [(todo[i] % 6).toNat]))), some (PyData.int (i : Int))] = some (iL (rowOf (todo[i] % 6).toNat)) by
                  rw [den_idx, hcv]
                  exact hidx]
                simp only [q_var, Store.get, List.getElem?_cons_zero, List.getElem?_cons_succ, Option.join_some, Option.bind_some]
                exact iL_cat (by unfold lim; lia)
          simp only [List.set_cons_succ, List.set_cons_zero]
          rw [hbody]
          simp only
          rw [ih]
          have hq : bfs (fun k => cells (rowOf k)) (t + 1) met (cells (todo.drop i)) = bfs (fun k => cells (rowOf k)) t (met ++ [(todo[i] % 6).toNat]) (cells ((todo ++ rowOf (todo[i] % 6).toNat).drop (i + 1))) := by
            rw [hdrop, List.drop_append_of_le_length (by lia)]; simp only [cells, List.map_cons, hcell, List.map_append]; rw [bfs, if_neg hmem]
          rw [hq]
      · have hcell : cellOf todo[i] = .val (2 * (if todo[i] < 0 then -todo[i] else todo[i])) := by unfold cellOf; rw [if_neg hp]
        refine skip (step_next (s_skip ?_) ss_nil') ?_
        · rw [dC_and, hc1]; simp only [Option.bind_some, if_true]; rw [dC_and, hc2]; simp [hp]
        · rw [hdrop]; simp only [cells, List.map_cons, hcell]; rw [bfs]
    · refine skip (step_next (s_skip ?_) ss_nil') ?_
      · have : denC Φ (.ex (.cmp .lt (.var 4) (.len (.var 2)))) [o0, some (iLL rows), some (iL todo), some (iL (nL met)), some (.int (i : Int))] = some false := by
          simp [dC_ex, q_var, den_cmp, q_len, Store.get, iL_len hlen, o_lt]; lia
        rw [dC_and, this]; rfl
      · rw [List.drop_eq_nil_of_le (by lia), List.drop_eq_nil_of_le (by lia)]
        show bfs _ (t + 1) met [] = bfs _ t met []
        rw [bfs_nil, bfs_nil]
end
end Mine

namespace Mine
open PySem
set_option autoImplicit false
set_option maxRecDepth 100000
noncomputable def Rof (rowOf : Nat → List Int) (k : Nat) : List Cell := cells (rowOf k)
noncomputable def below4 (k : Nat) : Prop := k < 4
section
variable {n : Nat}
theorem c_live {rows : List (List Int)} {rowOf : Nat → List Int} {roots : List Int} (hrow : ∀ k, k < 4 → rows[k]? = some (rowOf k) ∧ (rowOf k).length ≤ 2) (hr : roots.length ≤ 3) : callD tab FU (n + 1) 19 [iL roots, iLL rows] = some (iL (nL (liveN (Rof rowOf) (cells roots)))) := by
  refine call_run (fd := fd_law_live) rfl rfl rfl rfl ?_
  rw [show startStore fd_law_live [iL roots, iLL rows] = [some (iL roots), some (iLL rows), none, none, none] from rfl]
  obtain ⟨todo', x', h⟩ := loopL hrow (o0 := some (iL roots)) (Φ := callD tab FU n) (fuel := FU) 11 0 roots [] none (by lia) (by simp) (by lia)
  have hb := live_bfs (R := Rof rowOf) (S := below4) (fun k h => h) (fun k _ => cells_in (fun _ h => h) _) (fun k hk => by show (cells (rowOf k)).length ≤ 2; rw [cells_length]; exact (hrow k hk).2) (roots := cells roots) (cells_in (fun _ h => h) _) (by rw [cells_length]; exact hr)
  rw [List.drop_zero] at h
  have hb' : bfs (fun k => cells (rowOf k)) 11 [] (cells roots) = liveN (Rof rowOf) (cells roots) := hb
  rw [hb'] at h
  have hr0 : ((List.range 11).map (fun i => 0 + i)).map (fun (i : Nat) => PyData.int (i : Int)) = (List.range 11).map (fun (i : Nat) => PyData.int (i : Int)) := by simp
  rw [hr0] at h
  refine step_next (s_assign' (d := iL roots) (by exact (iL_listOf (show roots.length ≤ lim by unfold lim; lia)))) ?_
  refine step_next (s_assign' (d := iL (nL [])) (by simp [q_list, dEs_nil, iL, nL])) ?_
  refine step_next ((s_forR' (d := .int ((11 : Nat) : Int)) (by rfl) (range_items (by lia))).trans h) ?_
  exact step_ret (s_ret' (by rfl))
noncomputable def packN (live : List Nat) : List Nat := live ++ (List.range 6).filter (fun k => !decide (k ∈ live))
theorem compPk {live : List Nat} {Φ : Nat → List PyData → Option PyData} : ∀ (ks : List Nat), compD (fun d => denC Φ (.ex (.cmp .notin (.var 0) (.var 1))) [some d, some (iL (nL live))]) (fun d => denE Φ (.var 0) [some d, some (iL (nL live))]) (ks.map fun (k : Nat) => PyData.int (k : Int)) = some ((nL (ks.filter fun k => !decide (k ∈ live))).map .int)
  | [] => rfl
  | k :: ks => by
    have ih := compPk (live := live) (Φ := Φ) ks
    rw [List.map_cons, compD]
    have ht : denC Φ (.ex (.cmp .notin (.var 0) (.var 1))) [some (.int (k : Int)), some (iL (nL live))] = some (!decide (k ∈ live)) := by
      simp [dC_ex, q_var, den_cmp, Store.get, cmp_notin, mem_nL]
    simp only [PyData.canLay0, if_true, ht]
    by_cases hk : k ∈ live
    · simp only [hk, decide_true, Bool.not_true, List.filter_cons, Bool.false_eq_true, if_false]
      exact ih
    · simp only [hk, decide_false, Bool.not_false, List.filter_cons, if_true]
      simp only [q_var, Store.get, List.getElem?_cons_zero, Option.join_some]
      simp only [q_var, Store.get, List.getElem?_cons_zero, Option.join_some] at ih
      rw [ih]
      simp [nL]
theorem c_packed {live : List Nat} (hl : live.length ≤ 100) : callD tab FU (n + 1) 20 [iL (nL live)] = some (iL (nL (packN live))) := by
  refine call_run (fd := fd_law_packed) rfl rfl rfl rfl (step_ret (s_ret' ?_))
  have hc := e_comp' (Φ := callD tab FU n) (σ := [some (iL (nL live))]) (z := Str.ofString "n") (caps := [0]) (rng := true) (src := .int 6) (cond := .ex (.cmp .notin (.var 0) (.var 1))) (elt := .var 0) (d := .int ((6 : Nat) : Int)) (by rfl) (range_items (by lia)) (compPk (live := live) (List.range 6))
  rw [show startStore fd_law_packed [iL (nL live)] = [some (iL (nL live))] from rfl, den_cat, hc]
  simp only [q_var, Store.get, List.getElem?_cons_zero, Option.join_some, Option.bind_some]
  have hf : ((List.range 6).filter fun k => !decide (k ∈ live)).length ≤ 6 := Nat.le_trans (List.length_filter_le _ _) (by simp)
  rw [show PyData.list ((nL ((List.range 6).filter fun k => !decide (k ∈ live))).map .int) = iL (nL ((List.range 6).filter fun k => !decide (k ∈ live))) from rfl, iL_cat (by simp only [nL, List.length_map]; unfold lim; lia)]
  simp [packN, nL]
theorem plI_ones {L : List Nat} : ∀ (at_ : Int) (k : Nat), k ∈ L → plI (fun _ => 1) L at_ k = at_ + (rk L k : Int) := by
  induction L with
  | nil => intro _ k h; cases h
  | cons j L ih =>
    intro at_ k h
    unfold plI rk
    by_cases hjk : j = k
    · subst hjk; simp
    · rw [if_neg hjk, ih _ k ((List.mem_cons.mp h).resolve_left fun q => hjk q.symm)]
      have : List.idxOf k (j :: L) = List.idxOf k L + 1 := by
        rw [List.idxOf_cons]
        have : (j == k) = false := by simpa using hjk
        rw [this]; rfl
      rw [this]; unfold rk; lia
theorem loopSeen {rows : List (List Int)} {rowOf : Nat → List Int} {D : List (PyData × PyData)} {q : Nat → Nat} {o0 o2 : Option PyData} {L : List Nat} (hrow : ∀ k ∈ L, rows[k]? = some (rowOf k) ∧ (rowOf k).length ≤ 100 ∧ k < 900) (hD : ∀ k ∈ L, ∀ j, Cell.ptr j ∈ cells (rowOf k) → dictGet D (j : Int) = some (q j : Int)) : ∀ (ks : List Nat) (acc : List (List Int)) (x : Option PyData), (∀ k ∈ ks, k ∈ L) → acc.length + ks.length ≤ 900 →
    ∃ x', loopD (denSs (callD tab FU (n + 1)) FU (.cons (.append 4 (.call 16 (.cons (.idx (.var 1) (.var 5)) (.cons (.var 3) .nil)))) .nil)) 5 ((nL ks).map .int) [o0, some (iLL rows), o2, some (.dict D), some (iLL acc), x] = some (.next [o0, some (iLL rows), o2, some (.dict D), some (iLL (acc ++ shown q (Rof rowOf) ks)), x'])
  | [], acc, x, _, _ => ⟨x, by simp [shown, nL, o_l0]⟩
  | k :: ks, acc, x, hk, hl => by
    simp only [List.length_cons] at hl
    have hkL := hk k (.head _)
    obtain ⟨hr1, hr2, hr3⟩ := hrow k hkL
    obtain ⟨x', ih⟩ := loopSeen hrow hD ks (acc ++ [words q (cells (rowOf k))]) (some (.int (k : Int))) (fun j hj => hk j (.tail _ hj)) (by simp; lia) (o0 := o0) (o2 := o2)
    refine ⟨x', ?_⟩
    show loopD _ 5 (PyData.int (k : Int) :: (nL ks).map .int) _ = _
    rw [loopD]
    have hw := c_words (n := n) (hD k hkL) (by lia)
    have hidx := iLL_idx hr1 (show k < 1048576 by lia)
    have hbody : denSs (callD tab FU (n + 1)) FU (.cons (.append 4 (.call 16 (.cons (.idx (.var 1) (.var 5)) (.cons (.var 3) .nil)))) .nil) [o0, some (iLL rows), o2, some (.dict D), some (iLL acc), some (.int (k : Int))] = some (.next [o0, some (iLL rows), o2, some (.dict D), some (iLL (acc ++ [words q (cells (rowOf k))])), some (.int (k : Int))]) := by
      refine step_next (s_append' (l := iLL acc) (d := iL (words q (cells (rowOf k)))) rfl ?_ (iLL_append (by unfold lim; lia))) ss_nil'
      simp only [q_var, den_idx, q_call, dEs_nil, dEs_cons, Store.get, List.getElem?_cons_zero, List.getElem?_cons_succ, Option.join_some, Option.bind_some, hidx, hw]
    simp only [List.set_cons_succ, List.set_cons_zero]
    rw [hbody]
    simp only
    rw [ih]
    simp [shown, Rof]
theorem c_seen {rows : List (List Int)} {rowOf : Nat → List Int} {roots : List Int} (hrow : ∀ k, k < 4 → rows[k]? = some (rowOf k) ∧ (rowOf k).length ≤ 2) (hr : roots.length ≤ 3) :
    callD tab FU (n + 2) 21 [iL roots, iLL rows] = some (.tuple [iL (words (rk (liveN (Rof rowOf) (cells roots))) (cells roots)), iLL (shown (rk (liveN (Rof rowOf) (cells roots))) (Rof rowOf) (liveN (Rof rowOf) (cells roots)))]) := by
  refine call_run (fd := fd_law_seen) rfl rfl rfl rfl ?_
  rw [show startStore fd_law_seen [iL roots, iLL rows] = [some (iL roots), some (iLL rows), none, none, none, none] from rfl]
  have hlv := c_live (n := n) hrow hr
  have hR4 : ∀ k, below4 k → ∀ c ∈ Rof rowOf k, cellIn below4 c := fun k _ => cells_in (fun _ h => h) _
  have hr4 : ∀ c ∈ cells roots, cellIn below4 c := cells_in (fun _ h => h) _
  have hLS := live_sub (roots := cells roots) hR4 hr4
  have hnd := live_nodup (Rof rowOf) (cells roots)
  have hcl := live_closed (S := below4) (R := Rof rowOf) (roots := cells roots) (fun k h => by have : k < 4 := h; lia) hR4 hr4
  have hroot : ∀ k, Cell.ptr k ∈ cells roots → k ∈ liveN (Rof rowOf) (cells roots) := fun k h => live_roots h
  generalize liveN (Rof rowOf) (cells roots) = L at hlv hLS hnd hcl hroot ⊢
  have hL4 : L.length ≤ 4 := nodup_bound hnd fun k hk => hLS k hk
  have hones : ∀ k ∈ L, ([1, 1, 1, 1, 1, 1] : List Int)[k]? = some ((fun _ => 1 : Nat → Int) k) ∧ k < 900 := fun k hk => by
    have : k < 4 := hLS k hk
    match k, this with
    | 0, _ => exact ⟨rfl, by lia⟩
    | 1, _ => exact ⟨rfl, by lia⟩
    | 2, _ => exact ⟨rfl, by lia⟩
    | 3, _ => exact ⟨rfl, by lia⟩
  have hpl := c_places (n := n) (wide := [1, 1, 1, 1, 1, 1]) (wd := fun _ => 1) hones hnd (by lia)
  have hD : ∀ j ∈ L, dictGet (dP (fun _ => 1) L 0) (j : Int) = some (rk L j : Int) := fun j hj => by
    rw [dict_get L 0 j hj, plI_ones 0 j hj, Int.zero_add]
  obtain ⟨x', h⟩ := loopSeen (n := n) (rowOf := rowOf) (q := rk L) (o0 := some (iL roots)) (o2 := some (iL (nL L))) (D := dP (fun _ => 1) L 0) (L := L) (fun k hk => ⟨(hrow k (hLS k hk)).1, by have := (hrow k (hLS k hk)).2; lia, by have : k < 4 := hLS k hk; lia⟩) (fun k hk j hj => hD j (hcl k hk j hj)) L [] none (fun _ h => h) (by simp; lia)
  have hwr := c_words (n := n) (row := roots) (D := dP (fun _ => 1) L 0) (p := rk L) (fun k hk => hD k (hroot k hk)) (by lia)
  refine step_next (s_assign' (d := iL (nL L)) (by exact hlv)) ?_
  refine step_next (s_assign' (d := .dict (dP (fun _ => 1) L 0)) ?_) ?_
  · simp only [q_int, q_var, q_list, q_call, dEs_nil, dEs_cons, Store.get, List.set_cons_succ, List.set_cons_zero, List.getElem?_cons_zero, List.getElem?_cons_succ, Option.join_some, Option.bind_some, List.length_cons, List.length_nil]
    rw [if_pos (by decide)]
    exact hpl
  refine step_next (s_assign' (d := iLL []) (by rfl)) ?_
  refine step_next ((s_forL' (d := iL (nL L)) (by rfl) (iL_items (by simp [nL]; unfold lim; lia))).trans h) ?_
  refine step_ret (s_ret' ?_)
  simp only [q_var, den_tuple, q_call, dEs_nil, dEs_cons, Store.get, List.getElem?_cons_zero, List.getElem?_cons_succ, Option.join_some, Option.bind_some, hwr, List.nil_append, List.length_cons, List.length_nil]
  rw [if_pos (by decide)]
end
end Mine

namespace Mine
open PySem
set_option autoImplicit false
set_option maxRecDepth 100000
inductive Blk where
  | obj (ws : List Int)
  | free (g : Nat)
noncomputable def Blk.size : Blk → Nat
  | .obj ws => ws.length + 1
  | .free g => g + 1
noncomputable def Blk.isFree : Blk → Bool
  | .obj _ => false
  | .free _ => true
noncomputable def Blk.ints : Blk → List Int
  | .obj ws => (ws.length : Int) :: ws
  | .free g => fillN (g + 1)
noncomputable def flat (bs : List Blk) : List Int := bs.flatMap Blk.ints
theorem ints_length (b : Blk) : b.ints.length = b.size := by cases b <;> simp [Blk.ints, Blk.size, fillN_length]
noncomputable def bsize (bs : List Blk) : Nat := (bs.map Blk.size).sum
theorem flat_length (bs : List Blk) : (flat bs).length = bsize bs := by
  induction bs with
  | nil => rfl
  | cons b bs ih => simp only [flat, List.flatMap_cons, List.length_append, bsize, List.map_cons, List.sum_cons] at ih ⊢; rw [ih, ints_length]
theorem flat_append (a b : List Blk) : flat (a ++ b) = flat a ++ flat b := by simp [flat]
noncomputable def bTup (off : Nat) (b : Blk) : PyData := .tuple [.int (off : Int), .int (b.size : Int), .bool b.isFree]
noncomputable def bl : List Blk → Nat → List PyData
  | [], _ => []
  | b :: bs, off => bTup off b :: bl bs (off + b.size)
theorem bl_length : ∀ (bs : List Blk) (off : Nat), (bl bs off).length = bs.length
  | [], _ => rfl
  | b :: bs, off => by simp [bl, bl_length bs]
theorem size_pos (b : Blk) : 1 ≤ b.size := by cases b <;> simp [Blk.size]
theorem len_le_bsize : ∀ (bs : List Blk), bs.length ≤ bsize bs
  | [] => by simp [bsize]
  | b :: bs => by have := len_le_bsize bs; have := size_pos b; simp only [bsize, List.map_cons, List.sum_cons, List.length_cons] at *; lia
noncomputable def items (j t : Nat) : List PyData := ((List.range t).map (fun i => j + i)).map fun (i : Nat) => PyData.int (i : Int)
theorem items_succ (j t : Nat) : items j (t + 1) = PyData.int (j : Int) :: items (j + 1) t := range_from j t
theorem items_zero (j : Nat) : items j 0 = [] := rfl
theorem items_add : ∀ (a j b : Nat), items j (a + b) = items j a ++ items (j + a) b
  | 0, j, b => by simp [items_zero]
  | a + 1, j, b => by
    rw [show a + 1 + b = (a + b) + 1 by lia, items_succ, items_succ, items_add a (j + 1) b, List.cons_append, show j + 1 + a = j + (a + 1) by lia]
theorem items_range (t : Nat) : items 0 t = (List.range t).map fun (i : Nat) => PyData.int (i : Int) := by simp [items]
theorem loopD_app {body : Store → Option Res} {x : Nat} {ys : List PyData} {σ' : Store} : ∀ (xs : List PyData) (σ : Store), loopD body x xs σ = some (.next σ') → loopD body x (xs ++ ys) σ = loopD body x ys σ'
  | [], σ, h => by simp only [o_l0, Option.some.injEq, Res.next.injEq] at h; subst h; rfl
  | d :: ds, σ, h => by
    rw [loopD] at h
    rw [List.cons_append, loopD]
    split at h
    · rename_i σ1 e; exact loopD_app ds σ1 h
    · cases h
    · cases h
section
variable {n : Nat} {Φ : Nat → List PyData → Option PyData} {fuel : Nat}
noncomputable def bodyB : PSs := .cons (.ite (.ex (.cmp .eq (.var 3) (.var 2))) (.cons (.assign 4 (.idx (.var 0) (.var 3)))
      (.cons (.assign 5 (.ite (.ex (.cmp .ge (.var 4) (.int 0))) (.add (.var 4) (.int 1)) (.neg (.var 4))))
      (.cons (.ite (.ex (.cmp .gt (.add (.var 3) (.var 5)) (.len (.var 0)))) (.cons (.ret .none) .nil) .nil)
      (.cons (.append 1 (.tuple (.cons (.var 3) (.cons (.var 5) (.cons (.cmp .lt (.var 4) (.int 0)) .nil)))))
      (.cons (.assign 2 (.add (.var 3) (.var 5))) .nil))))) .nil) .nil
theorem skipB {m a h k : Option PyData} {at_ : Nat} : ∀ (t j : Nat) (x : Option PyData), j + t ≤ at_ → ∃ x', loopD (denSs Φ fuel bodyB) 3 (items j t) [m, a, some (.int (at_ : Int)), x, h, k] = some (.next [m, a, some (.int (at_ : Int)), x', h, k])
  | 0, j, x, _ => ⟨x, rfl⟩
  | t + 1, j, x, hl => by
    obtain ⟨x', ih⟩ := skipB (m := m) (a := a) (h := h) (k := k) (at_ := at_) t (j + 1) (some (.int (j : Int))) (by lia)
    refine ⟨x', ?_⟩
    rw [items_succ, loopD]
    have hb : denSs Φ fuel bodyB [m, a, some (.int (at_ : Int)), some (.int (j : Int)), h, k] = some (.next [m, a, some (.int (at_ : Int)), some (.int (j : Int)), h, k]) := by
      refine step_next (s_skip ?_) ss_nil'
      simp [dC_ex, q_var, den_cmp, Store.get, cmp_eq_int]; lia
    simp only [List.set_cons_succ, List.set_cons_zero]
    rw [hb]
    exact ih
theorem loopB {mem : List Int} (hml : mem.length ≤ 900) : ∀ (bs : List Blk) (pre : List Int) (acc : List PyData) (x h k : Option PyData), mem = pre ++ flat bs → acc.length + bs.length ≤ 900 →
    ∃ x' h' k', loopD (denSs Φ fuel bodyB) 3 (items pre.length (flat bs).length) [some (iL mem), some (.list acc), some (.int (pre.length : Int)), x, h, k] = some (.next [some (iL mem), some (.list (acc ++ bl bs pre.length)), some (.int (mem.length : Int)), x', h', k'])
  | [], pre, acc, x, h, k, hm, _ => ⟨x, h, k, by simp [flat] at hm; subst hm; simp [flat, items_zero, o_l0, bl]⟩
  | b :: bs, pre, acc, x, h, k, hm, hl => by
    simp only [List.length_cons] at hl
    have hfb : flat (b :: bs) = b.ints ++ flat bs := rfl
    have hfit : pre.length + b.size ≤ mem.length := by rw [hm, hfb]; simp [ints_length] <;> lia
    have hp := size_pos b
    obtain ⟨s, hs⟩ : ∃ s, b.size = s + 1 := ⟨b.size - 1, by lia⟩
    obtain ⟨hv, hh, hn, hf⟩ : ∃ hv : Int, mem[pre.length]? = some hv ∧ (if hv ≥ 0 then hv + 1 else -hv) = (b.size : Int) ∧ (decide (hv < 0)) = b.isFree := by
      rw [hm, hfb]
      cases b with
      | obj ws => exact ⟨(ws.length : Int), by simp [Blk.ints], by rw [if_pos (by lia)]; simp [Blk.size], by simp [Blk.isFree]⟩
      | free g => exact ⟨-((g + 1 : Nat) : Int), by simp [Blk.ints, fillN], by rw [if_neg (by lia)]; simp [Blk.size], by simp [Blk.isFree] <;> lia⟩
    have hstep : denSs Φ fuel bodyB [some (iL mem), some (.list acc), some (.int (pre.length : Int)), some (.int (pre.length : Int)), h, k] = some (.next [some (iL mem), some (.list (acc ++ [bTup pre.length b])), some (.int ((pre.length + b.size : Nat) : Int)), some (.int (pre.length : Int)), some (.int hv), some (.int (b.size : Int))]) := by
      refine step_next ((s_ite_t (by simp [dC_ex, q_var, den_cmp, Store.get, cmp_eq_int])).trans ?_) ss_nil'
      refine step_next (s_assign' (d := .int hv) ?_) ?_
      · simp only [q_var, den_idx, Store.get, List.getElem?_cons_zero, List.getElem?_cons_succ, Option.join_some, Option.bind_some]
        exact iL_idx hh (by lia)
      refine step_next (s_assign' (d := .int (b.size : Int)) ?_) ?_
      · rw [← hn]
        simp only [q_int, q_var, q_add, q_neg, den_cmp, q_ite, dC_ex, Store.get, List.set_cons_succ, List.set_cons_zero, List.getElem?_cons_zero, List.getElem?_cons_succ, Option.join_some, Option.bind_some, o_ge, Option.map_some]
        by_cases h0 : hv ≥ 0
        · simp [h0, o_add]
        · simp [h0, o_neg]
      refine step_next (s_skip ?_) ?_
      · simp only [q_var, q_add, den_cmp, q_len, dC_ex, Store.get, List.set_cons_succ, List.set_cons_zero, List.getElem?_cons_zero, List.getElem?_cons_succ, Option.join_some, Option.bind_some, o_add, iL_len (show mem.length ≤ lim by unfold lim; lia), o_gt, Option.map_some]
        rw [decide_eq_false (by lia)]
      refine step_next (s_append' (l := .list acc) (d := bTup pre.length b) (l' := .list (acc ++ [bTup pre.length b])) rfl ?_ (by simp only [o_ap]; rw [if_pos (by unfold lim; lia)])) ?_
      · simp only [q_int, q_var, den_cmp, den_tuple, dEs_nil, dEs_cons, Store.get, List.set_cons_succ, List.set_cons_zero, List.getElem?_cons_zero, List.getElem?_cons_succ, Option.join_some, Option.bind_some, o_lt, Option.map_some, List.length_cons, List.length_nil]
        rw [if_pos (by decide), hf]
        rfl
      refine step_next (s_assign' (d := .int ((pre.length + b.size : Nat) : Int)) ?_) ss_nil'
      simp only [q_var, q_add, Store.get, List.set_cons_succ, List.set_cons_zero, List.getElem?_cons_zero, List.getElem?_cons_succ, Option.join_some, Option.bind_some, o_add]
      rfl
    obtain ⟨x1, hsk⟩ := skipB (Φ := Φ) (fuel := fuel) (m := some (iL mem)) (a := some (.list (acc ++ [bTup pre.length b]))) (h := some (.int hv)) (k := some (.int (b.size : Int))) (at_ := pre.length + b.size) s (pre.length + 1) (some (.int (pre.length : Int))) (by lia)
    obtain ⟨x', h', k', ih⟩ := loopB hml bs (pre ++ b.ints) (acc ++ [bTup pre.length b]) x1 (some (.int hv)) (some (.int (b.size : Int))) (by rw [hm, hfb, List.append_assoc]) (by simp; lia)
    refine ⟨x', h', k', ?_⟩
    rw [hfb, List.length_append, ints_length, hs, show s + 1 + (flat bs).length = (s + (flat bs).length) + 1 by lia, items_succ, loopD]
    simp only [List.set_cons_succ, List.set_cons_zero]
    rw [hstep]
    simp only
    rw [items_add, loopD_app _ _ hsk]
    rw [List.length_append, ints_length] at ih
    rw [show pre.length + 1 + s = pre.length + b.size by lia, ih]
    simp [bl]
theorem c_blocks {bs : List Blk} (hl : bsize bs ≤ 900) : callD tab FU (n + 1) 3 [iL (flat bs)] = some (.list (bl bs 0)) := by
  refine call_run (fd := fd_blocks_of) rfl rfl rfl rfl ?_
  rw [show startStore fd_blocks_of [iL (flat bs)] = [some (iL (flat bs)), none, none, none, none, none] from rfl]
  have hfl := flat_length bs
  obtain ⟨x', h', k', h⟩ := loopB (Φ := callD tab FU n) (fuel := FU) (mem := flat bs) (by lia) bs [] [] none none none rfl (by have := len_le_bsize bs; simp; lia)
  simp only [List.length_nil, items_range] at h
  refine step_next (s_assign' (d := .list []) (by rfl)) ?_
  refine step_next (s_assign' (d := .int ((0 : Nat) : Int)) (by rfl)) ?_
  refine step_next ((s_forR' (d := .int ((flat bs).length : Int)) ?_ (range_items (by lia))).trans h) ?_
  · simp only [q_var, q_len, Store.get, List.set_cons_succ, List.set_cons_zero, List.getElem?_cons_zero, List.getElem?_cons_succ, Option.join_some, Option.bind_some]
    exact iL_len (by unfold lim; lia)
  exact step_ret (s_ret' (by rfl))
end
end Mine

namespace Mine
open PySem
set_option autoImplicit false
set_option maxRecDepth 100000
section
variable {n : Nat} {Φ : Nat → List PyData → Option PyData} {fuel : Nat}
noncomputable def freeSum (bs : List Blk) : Nat := (bs.map fun b => if b.isFree then b.size else 0).sum
theorem bTup_get (off : Nat) (b : Blk) : dIdx (bTup off b) (.int 0) = some (.int (off : Int)) ∧ dIdx (bTup off b) (.int 1) = some (.int (b.size : Int)) ∧ dIdx (bTup off b) (.int 2) = some (.bool b.isFree) := by
  refine ⟨rfl, rfl, rfl⟩
theorem loopFree {o0 : Option PyData} : ∀ (bs : List Blk) (off : Nat) (tot : Int) (x : Option PyData),
    ∃ x', loopD (denSs Φ fuel (.cons (.ite (.ex (.idx (.var 2) (.int 2))) (.cons (.assign 1 (.add (.var 1) (.idx (.var 2) (.int 1)))) .nil) .nil) .nil)) 2 (bl bs off) [o0, some (.int tot), x] = some (.next [o0, some (.int (tot + (freeSum bs : Int))), x'])
  | [], off, tot, x => ⟨x, by simp [bl, o_l0, freeSum]⟩
  | b :: bs, off, tot, x => by
    obtain ⟨h0, h1, h2⟩ := bTup_get off b
    obtain ⟨x', ih⟩ := loopFree (o0 := o0) bs (off + b.size) (tot + (if b.isFree then (b.size : Int) else 0)) (some (bTup off b))
    refine ⟨x', ?_⟩
    rw [bl, loopD]
    have hb : denSs Φ fuel (.cons (.ite (.ex (.idx (.var 2) (.int 2))) (.cons (.assign 1 (.add (.var 1) (.idx (.var 2) (.int 1)))) .nil) .nil) .nil) [o0, some (.int tot), some (bTup off b)] = some (.next [o0, some (.int (tot + (if b.isFree then (b.size : Int) else 0))), some (bTup off b)]) := by
      have hc : denC Φ (.ex (.idx (.var 2) (.int 2))) [o0, some (.int tot), some (bTup off b)] = some b.isFree := by
        exact via h2 rfl
      cases hf : b.isFree with
      | true =>
        rw [hf] at hc
        refine step_next ((s_ite_t hc).trans (step_next (s_assign' (d := .int (tot + (b.size : Int))) ?_) ss_nil')) ?_
        · exact via rfl (via h1 rfl)
        · rw [dSs_nil]; simp
      | false =>
        rw [hf] at hc
        refine step_next (s_skip hc) ?_
        rw [dSs_nil]; simp
    simp only [List.set_cons_succ, List.set_cons_zero]
    rw [hb]
    simp only
    rw [ih]
    congr 5
    simp only [freeSum, List.map_cons, List.sum_cons]
    cases b.isFree <;> simp <;> lia
theorem c_free {bs : List Blk} (hl : bsize bs ≤ 900) : callD tab FU (n + 2) 4 [iL (flat bs)] = some (.int (freeSum bs : Int)) := by
  refine call_run (fd := fd_free_words) rfl rfl rfl rfl ?_
  rw [show startStore fd_free_words [iL (flat bs)] = [some (iL (flat bs)), none, none] from rfl]
  have hb := c_blocks (n := n) hl
  obtain ⟨x', h⟩ := loopFree (Φ := callD tab FU (n + 1)) (fuel := FU) (o0 := some (iL (flat bs))) bs 0 0 none
  refine step_next (s_assign' (d := .int 0) (by rfl)) ?_
  refine step_next ((s_forL' (d := .list (bl bs 0)) ?_ ?_).trans h) ?_
  · exact hb
  · simp only [o_xL, Bool.false_eq_true, if_false]
    rw [if_pos (by rw [bl_length]; have := len_le_bsize bs; unfold lim; lia)]
  · exact step_ret (s_ret' (by simp [q_var, Store.get]))
theorem loopLW {mem : List Int} {p : Nat → Nat} {R : Nat → List Cell} {S : Nat → Prop} (H : Holds mem p R S) {o1 : Option PyData} : ∀ (ks : List Nat) (tot : Int) (x : Option PyData), (∀ k ∈ ks, S k) →
    ∃ x', loopD (denSs Φ fuel (.cons (.assign 2 (.add (.add (.var 2) (.idx (.var 0) (.var 3))) (.int 1))) .nil)) 3 ((pls p ks).map .int) [some (iL mem), o1, some (.int tot), x] = some (.next [some (iL mem), o1, some (.int (tot + (total R ks : Int))), x'])
  | [], tot, x, _ => ⟨x, by simp [pls, o_l0, total]⟩
  | k :: ks, tot, x, h => by
    have hk := h k (.head _)
    have hh := (H.obj k hk).head
    have hf := (H.obj k hk).fits
    have hs := H.small
    rw [words_length] at hh
    obtain ⟨x', ih⟩ := loopLW H (o1 := o1) ks (tot + ((R k).length : Int) + 1) (some (.int (p k : Int))) (fun j hj => h j (.tail _ hj))
    refine ⟨x', ?_⟩
    show loopD _ 3 (PyData.int (p k : Int) :: (pls p ks).map .int) _ = _
    rw [loopD]
    have hb : denSs Φ fuel (.cons (.assign 2 (.add (.add (.var 2) (.idx (.var 0) (.var 3))) (.int 1))) .nil) [some (iL mem), o1, some (.int tot), some (.int (p k : Int))] = some (.next [some (iL mem), o1, some (.int (tot + ((R k).length : Int) + 1)), some (.int (p k : Int))]) := by
      refine step_next (s_assign' (d := .int (tot + ((R k).length : Int) + 1)) ?_) ss_nil'
      simp only [q_int, q_var, q_add, den_idx, Store.get, List.getElem?_cons_zero, List.getElem?_cons_succ, Option.join_some, Option.bind_some, iL_idx hh (show p k < 1048576 by lia), o_add]
    simp only [List.set_cons_succ, List.set_cons_zero]
    rw [hb]
    simp only
    rw [ih]
    have ht : total R (k :: ks) = ((R k).length + 1) + total R ks := by simp [total, sz]
    rw [ht, show tot + ((R k).length : Int) + 1 + (total R ks : Int) = tot + (((R k).length + 1 + total R ks : Nat) : Int) by lia]
theorem c_liveWords {mem : List Int} {p : Nat → Nat} {R : Nat → List Cell} {S : Nat → Prop} {roots : List Cell} (H : Holds mem p R S) (hS : ∀ k, S k → k < 8) (hr : ∀ c ∈ roots, cellIn S c) (hl : roots.length ≤ 100) :
    callD tab FU (n + 3) 9 [iL mem, iL (words p roots)] = some (.int (total R (liveN R roots) : Int)) := by
  refine call_run (fd := fd_live_words) rfl rfl rfl rfl ?_
  rw [show startStore fd_live_words [iL mem, iL (words p roots)] = [some (iL mem), some (iL (words p roots)), none, none] from rfl]
  have hR := c_reach (n := n) H hS hr hl
  have hLS : ∀ k ∈ liveN R roots, S k := live_sub H.cells hr
  have hL8 : (liveN R roots).length ≤ 8 := nodup_bound (live_nodup R roots) fun k hk => hS k (hLS k hk)
  obtain ⟨x', h⟩ := loopLW (Φ := callD tab FU (n + 2)) (fuel := FU) H (o1 := some (iL (words p roots))) (liveN R roots) 0 none hLS
  refine step_next (s_assign' (d := .int 0) (by rfl)) ?_
  refine step_next ((s_forL' (d := iL (pls p (liveN R roots))) ?_ (iL_items (by simp [pls]; unfold lim; lia))).trans h) ?_
  · exact hR
  · exact step_ret (s_ret' (by simp [q_var, Store.get]))
end
end Mine

namespace Mine
open PySem
set_option autoImplicit false
set_option maxRecDepth 100000
noncomputable def sweepI (marked : List Int) : List Blk → Nat → Nat → List Int
  | [], _, g => fillN g
  | b :: bs, off, g => if b.isFree = false ∧ (off : Int) ∈ marked then fillN g ++ b.ints ++ sweepI marked bs (off + b.size) 0 else sweepI marked bs (off + b.size) (g + b.size)
section
variable {n : Nat} {Φ : Nat → List PyData → Option PyData} {fuel : Nat}
noncomputable def bodySw : PSs := .cons (.assign 5 (.idx (.var 4) (.int 0)))
    (.cons (.assign 6 (.idx (.var 4) (.int 1)))
    (.cons (.ite (.and (.not (.ex (.idx (.var 4) (.int 2)))) (.ex (.cmp .isin (.var 5) (.var 1)))) (.cons (.assign 2 (.cat (.var 2) (.slLH (.var 0) (.var 5) (.add (.var 5) (.var 6)))))
      (.cons (.assign 3 (.neg (.int 1)))
      .nil)) (.cons (.ite (.ex (.cmp .ge (.var 3) (.int 0))) (.cons (.store 2 (.var 3) (.sub (.idx (.var 2) (.var 3)) (.var 6)))
        (.cons (.assign 2 (.cat (.var 2) (.repl (.int 0) (.var 6))))
        .nil)) (.cons (.assign 3 (.len (.var 2)))
        (.cons (.assign 2 (.cat (.cat (.var 2) (.list (.cons (.neg (.var 6)) .nil))) (.repl (.int 0) (.sub (.var 6) (.int 1)))))
        .nil)))
      .nil))
    .nil))
noncomputable def runV (done : List Int) (g : Nat) : Int := if g = 0 then -1 else (done.length : Int)
theorem stepSw {mem marked done pre post : List Int} {g : Nat} {b : Blk} {o5 o6 : Option PyData} (hm : mem = pre ++ b.ints ++ post) (hl : mem.length ≤ 900) (hd : done.length + g + b.size ≤ 900) :
    denSs Φ fuel bodySw [some (iL mem), some (iL marked), some (iL (done ++ fillN g)), some (.int (runV done g)), some (bTup pre.length b), o5, o6] =
      (if b.isFree = false ∧ (pre.length : Int) ∈ marked then some (.next [some (iL mem), some (iL marked), some (iL (done ++ fillN g ++ b.ints)), some (.int (-1)), some (bTup pre.length b), some (.int (pre.length : Int)), some (.int (b.size : Int))])
       else some (.next [some (iL mem), some (iL marked), some (iL (done ++ fillN (g + b.size))), some (.int (done.length : Int)), some (bTup pre.length b), some (.int (pre.length : Int)), some (.int (b.size : Int))])) := by
  obtain ⟨h0, h1, h2⟩ := bTup_get pre.length b
  have hp := size_pos b
  have hml : pre.length + b.size + post.length = mem.length := by rw [hm]; simp [ints_length] <;> lia
  refine step_next (s_assign' (d := .int (pre.length : Int)) (by exact h0)) ?_
  refine step_next (s_assign' (d := .int (b.size : Int)) (by exact h1)) ?_
  simp only [List.set_cons_succ, List.set_cons_zero]
  have hc1 : denC Φ (.not (.ex (.idx (.var 4) (.int 2)))) [some (iL mem), some (iL marked), some (iL (done ++ fillN g)), some (.int (runV done g)), some (bTup pre.length b), some (.int (pre.length : Int)), some (.int (b.size : Int))] = some (!b.isFree) := by
    simp only [dC_ex, dC_not, q_int, q_var, den_idx, Store.get, List.getElem?_cons_zero, List.getElem?_cons_succ, Option.join_some, Option.bind_some, h2, Option.map_some]
  have hc2 : denC Φ (.ex (.cmp .isin (.var 5) (.var 1))) [some (iL mem), some (iL marked), some (iL (done ++ fillN g)), some (.int (runV done g)), some (bTup pre.length b), some (.int (pre.length : Int)), some (.int (b.size : Int))] = some (decide ((pre.length : Int) ∈ marked)) := by
    simp only [dC_ex, q_var, den_cmp, Store.get, List.getElem?_cons_zero, List.getElem?_cons_succ, Option.join_some, Option.bind_some, cmp_in, Option.map_some]
  by_cases hc : b.isFree = false ∧ (pre.length : Int) ∈ marked
  · rw [if_pos hc]
    refine step_next ((s_ite_t ?_).trans ?_) ss_nil'
    · rw [dC_and, hc1, hc2]; simp [hc.1, hc.2]
    · refine step_next (s_assign' (d := iL (done ++ fillN g ++ b.ints)) ?_) (step_next (s_assign' (d := .int (-1)) (by rfl)) ss_nil')
      have hsl : (mem.take (pre.length + b.size)).drop pre.length = b.ints := by
        rw [hm, ← ints_length, List.append_assoc, ← List.append_assoc]
        rw [show pre.length + b.ints.length = (pre ++ b.ints).length by simp, List.take_left, List.drop_left]
      simp only [q_var, q_add, den_cat, q_slLH, Store.get, List.getElem?_cons_zero, List.getElem?_cons_succ, Option.join_some, Option.bind_some, o_add]
      rw [iL_slLH (by unfold lim; lia), show ((pre.length : Int) + (b.size : Int)) = ((pre.length + b.size : Nat) : Int) by lia, clamp_nat, clamp_nat, Nat.min_eq_left (by lia), Nat.min_eq_left (by lia), hsl]
      simp only [Option.bind_some]
      exact iL_cat (by rw [List.length_append, fillN_length, ints_length]; unfold lim; lia)
  · rw [if_neg hc]
    refine step_next (σ' := [some (iL mem), some (iL marked), some (iL (done ++ fillN (g + b.size))), some (.int (done.length : Int)), some (bTup pre.length b), some (.int (pre.length : Int)), some (.int (b.size : Int))]) ((s_ite_f ?_).trans ?_) ss_nil'
    · rw [dC_and, hc1]
      cases hf : b.isFree with
      | true => simp
      | false =>
        have : ¬ (pre.length : Int) ∈ marked := fun q => hc ⟨hf, q⟩
        simp [hc2, this]
    · obtain ⟨s, hs⟩ : ∃ s, b.size = s + 1 := ⟨b.size - 1, by lia⟩
      cases g with
      | zero =>
        refine step_next ((s_ite_f ?_).trans ?_) ss_nil'
        · simp [dC_ex, q_int, q_var, den_cmp, Store.get, o_ge, runV]
        · have e0 : done ++ fillN 0 = done := by simp [fillN]
          rw [e0]
          refine step_next (s_assign' (d := .int (done.length : Int)) ?_) (step_next (s_assign' (d := iL (done ++ fillN (0 + b.size))) ?_) ss_nil')
          · simp only [q_var, q_len, Store.get, List.getElem?_cons_zero, List.getElem?_cons_succ, Option.join_some, Option.bind_some]
            exact iL_len (by unfold lim; lia)
          · simp only [q_int, q_var, q_sub, q_neg, den_cat, q_repl, q_list, dEs_nil, dEs_cons, Store.get, List.set_cons_succ, List.set_cons_zero, List.getElem?_cons_zero, List.getElem?_cons_succ, Option.join_some, Option.bind_some, o_neg, o_sub, List.length_cons, List.length_nil]
            rw [if_pos (by decide), iL_repl (by lia)]
            simp only [Option.bind_some]
            rw [show PyData.list [PyData.int (-(b.size : Int))] = iL [-(b.size : Int)] from rfl, iL_cat (by simp; unfold lim; lia)]
            simp only [Option.bind_some]
            rw [iL_cat (by simp; unfold lim; lia), Nat.zero_add, hs]
            simp [fillN, zeros]
      | succ g =>
        refine step_next ((s_ite_t ?_).trans ?_) ss_nil'
        · simp [dC_ex, q_int, q_var, den_cmp, Store.get, o_ge, runV]
        · have hidx : (done ++ fillN (g + 1))[done.length]? = some (-((g + 1 : Nat) : Int)) := by simp [fillN]
          have hset : (done ++ fillN (g + 1)).set done.length (-((g + 1 : Nat) : Int) - (b.size : Int)) = done ++ ((-((g + 1 + b.size : Nat) : Int)) :: zeros g) := by
            rw [List.set_append_right _ _ (Nat.le_refl _)]
            simp only [Nat.sub_self, fillN, List.set_cons_zero]
            congr 2; lia
          have hrun : runV done (g + 1) = (done.length : Int) := by simp [runV]
          rw [hrun]
          refine step_next (s_store' (d := .int (-((g + 1 : Nat) : Int) - (b.size : Int))) (l := iL (done ++ fillN (g + 1))) (k := .int (done.length : Int)) (l' := iL (done ++ ((-((g + 1 + b.size : Nat) : Int)) :: zeros g))) ?_ rfl (by rfl) ?_) ?_
          · exact via (iL_idx hidx (show done.length < 1048576 by lia)) rfl
          · rw [iL_set (by simp [fillN_length]) (by rw [List.length_append, fillN_length]; unfold lim; lia), hset]
          · refine step_next (s_assign' (d := iL (done ++ fillN (g + 1 + b.size))) ?_) ss_nil'
            simp only [q_int, q_var, den_cat, q_repl, Store.get, List.set_cons_succ, List.set_cons_zero, List.getElem?_cons_zero, List.getElem?_cons_succ, Option.join_some, Option.bind_some]
            rw [iL_repl (by lia)]
            simp only [Option.bind_some]
            rw [iL_cat (by simp [zeros_length]; unfold lim; lia)]
            have ef : fillN (g + 1 + b.size) = (-((g + 1 + b.size : Nat) : Int)) :: zeros (g + b.size) := by
              rw [show g + 1 + b.size = (g + b.size) + 1 by lia]; rfl
            rw [ef]
            simp [zeros, List.replicate_append_replicate]
theorem loopSw {mem marked : List Int} (hl : mem.length ≤ 900) : ∀ (bs : List Blk) (pre done : List Int) (g : Nat) (x o5 o6 : Option PyData), mem = pre ++ flat bs → done.length + g + bsize bs ≤ 900 →
    ∃ new' r' x' o5' o6', loopD (denSs Φ fuel bodySw) 4 (bl bs pre.length) [some (iL mem), some (iL marked), some (iL (done ++ fillN g)), some (.int (runV done g)), x, o5, o6] = some (.next [some (iL mem), some (iL marked), some (iL new'), r', x', o5', o6']) ∧ new' = done ++ sweepI marked bs pre.length g
  | [], pre, done, g, x, o5, o6, _, _ => ⟨_, _, x, o5, o6, rfl, rfl⟩
  | b :: bs, pre, done, g, x, o5, o6, hm, hd => by
    have hbs : bsize (b :: bs) = b.size + bsize bs := by simp [bsize]
    rw [hbs] at hd
    have hm2 : mem = pre ++ b.ints ++ flat bs := by rw [hm]; simp [flat]
    have hst := stepSw (Φ := Φ) (fuel := fuel) (marked := marked) (done := done) (g := g) (o5 := o5) (o6 := o6) hm2 hl (by lia)
    have hpl : (pre ++ b.ints).length = pre.length + b.size := by simp [ints_length]
    rw [bl, loopD]
    simp only [List.set_cons_succ, List.set_cons_zero]
    rw [hst]
    by_cases hc : b.isFree = false ∧ (pre.length : Int) ∈ marked
    · rw [if_pos hc]
      obtain ⟨new', r', x', o5', o6', ih1, ih2⟩ := loopSw hl bs (pre ++ b.ints) (done ++ fillN g ++ b.ints) 0 (some (bTup pre.length b)) (some (.int (pre.length : Int))) (some (.int (b.size : Int))) hm2 (by simp only [List.length_append, fillN_length, ints_length]; lia)
      rw [hpl] at ih1 ih2
      have e0 : done ++ fillN g ++ b.ints ++ fillN 0 = done ++ fillN g ++ b.ints := by simp [fillN]
      have e1 : runV (done ++ fillN g ++ b.ints) 0 = -1 := rfl
      rw [e0, e1] at ih1
      refine ⟨new', r', x', o5', o6', ih1, ?_⟩
      rw [ih2, sweepI, if_pos hc]; simp [List.append_assoc]
    · rw [if_neg hc]
      have hp := size_pos b
      obtain ⟨new', r', x', o5', o6', ih1, ih2⟩ := loopSw hl bs (pre ++ b.ints) done (g + b.size) (some (bTup pre.length b)) (some (.int (pre.length : Int))) (some (.int (b.size : Int))) hm2 (by lia)
      rw [hpl] at ih1 ih2
      have e1 : runV done (g + b.size) = (done.length : Int) := by unfold runV; rw [if_neg (by lia)]
      rw [e1] at ih1
      refine ⟨new', r', x', o5', o6', ih1, ?_⟩
      rw [ih2, sweepI, if_neg hc]
theorem c_swept {bs : List Blk} {marked : List Int} (hl : bsize bs ≤ 900) : callD tab FU (n + 2) 10 [iL (flat bs), iL marked] = some (iL (sweepI marked bs 0 0)) := by
  refine call_run (fd := fd_swept) rfl rfl rfl rfl ?_
  rw [show startStore fd_swept [iL (flat bs), iL marked] = [some (iL (flat bs)), some (iL marked), none, none, none, none, none] from rfl]
  have hb := c_blocks (n := n) hl
  obtain ⟨new', r', x', o5', o6', h, e⟩ := loopSw (Φ := callD tab FU (n + 1)) (fuel := FU) (mem := flat bs) (marked := marked) (by rw [flat_length]; exact hl) bs [] [] 0 none none none rfl (by simp; exact hl)
  have e2 : new' = sweepI marked bs 0 0 := by simpa using e
  subst e2
  refine step_next (s_assign' (d := iL []) (by rfl)) ?_
  refine step_next (s_assign' (d := .int (-1)) (by rfl)) ?_
  refine step_next ((s_forL' (d := .list (bl bs 0)) ?_ ?_).trans h) ?_
  · exact hb
  · simp only [o_xL, Bool.false_eq_true, if_false, List.length_nil]
    rw [if_pos (by rw [bl_length]; have := len_le_bsize bs; unfold lim; lia)]
  · exact step_ret (s_ret' (by rfl))
end
end Mine

namespace Mine
open PySem
set_option autoImplicit false
set_option maxRecDepth 100000
noncomputable def freeB : Nat → List Blk
  | 0 => []
  | g + 1 => [.free g]
theorem flat_freeB (g : Nat) : flat (freeB g) = fillN g := by cases g <;> simp [freeB, flat, Blk.ints, fillN]
theorem bsize_freeB (g : Nat) : bsize (freeB g) = g := by cases g <;> simp [freeB, bsize, Blk.size]
theorem bsize_append (a b : List Blk) : bsize (a ++ b) = bsize a + bsize b := by simp [bsize]
noncomputable def heapB (kept : List Nat) (ws : Nat → List Int) (wn : Nat → Nat) : List Nat → Nat → List Blk
  | [], g => freeB g
  | k :: ks, g => if k ∈ kept then freeB g ++ (.obj (ws k) :: heapB kept ws wn ks 0) else heapB kept ws wn ks (g + wn k)
theorem heapGo_flat {kept : List Nat} {p : Nat → Nat} {rowOf : Nat → List Int} {wd : Nat → Int} {wn : Nat → Nat} : ∀ (ks : List Nat) (g : Nat), (∀ k ∈ ks, wd k = (wn k : Int)) → heapGo kept p rowOf wd ks (g : Int) = flat (heapB kept (fun k => words p (cells (rowOf k))) wn ks g)
  | [], g, _ => by simp [heapGo, heapB, flat_freeB]
  | k :: ks, g, h => by
    unfold heapGo heapB
    by_cases hk : k ∈ kept
    · rw [if_pos hk, if_pos hk, flat_append, flat_freeB]
      have := heapGo_flat (kept := kept) (p := p) (rowOf := rowOf) ks 0 (fun j hj => h j (.tail _ hj))
      rw [show ((0 : Nat) : Int) = 0 from rfl] at this
      rw [this]
      simp [flat, Blk.ints, words_length, cells_length]
    · rw [if_neg hk, if_neg hk, h k (.head _), show (g : Int) + (wn k : Int) = ((g + wn k : Nat) : Int) by lia]
      exact heapGo_flat ks (g + wn k) (fun j hj => h j (.tail _ hj))
noncomputable def wsum (wn : Nat → Nat) (ks : List Nat) : Nat := (ks.map wn).sum
theorem heapB_size {kept : List Nat} {ws : Nat → List Int} {wn : Nat → Nat} : ∀ (ks : List Nat) (g : Nat), (∀ k ∈ ks, k ∈ kept → (ws k).length + 1 = wn k) → bsize (heapB kept ws wn ks g) = g + wsum wn ks
  | [], g, _ => by simp [heapB, bsize_freeB, wsum]
  | k :: ks, g, h => by
    unfold heapB
    have hw : wsum wn (k :: ks) = wn k + wsum wn ks := by simp [wsum]
    by_cases hk : k ∈ kept
    · rw [if_pos hk, bsize_append, bsize_freeB, show bsize (Blk.obj (ws k) :: heapB kept ws wn ks 0) = ((ws k).length + 1) + bsize (heapB kept ws wn ks 0) by simp [bsize, Blk.size], heapB_size ks 0 (fun j hj => h j (.tail _ hj)), h k (.head _) hk, hw]; lia
    · rw [if_neg hk, heapB_size ks _ (fun j hj => h j (.tail _ hj)), hw]; lia
theorem heapB_obj {kept : List Nat} {ws : Nat → List Int} {wn : Nat → Nat} : ∀ (pre : List Nat) (g k : Nat) (post : List Nat), (∀ i ∈ pre ++ k :: post, i ∈ kept → (ws i).length + 1 = wn i) → k ∈ kept → ∃ A B, heapB kept ws wn (pre ++ k :: post) g = A ++ .obj (ws k) :: B ∧ bsize A = g + wsum wn pre
  | [], g, k, post, h, hk => ⟨freeB g, heapB kept ws wn post 0, by rw [List.nil_append, heapB, if_pos hk], by simp [bsize_freeB, wsum]⟩
  | j :: pre, g, k, post, h, hk => by
    have hw : wsum wn (j :: pre) = wn j + wsum wn pre := by simp [wsum]
    rw [List.cons_append, heapB]
    by_cases hj : j ∈ kept
    · obtain ⟨A, B, e1, e2⟩ := heapB_obj pre 0 k post (fun i hi => h i (.tail _ hi)) hk
      refine ⟨freeB g ++ (.obj (ws j) :: A), B, by rw [if_pos hj, e1]; simp, ?_⟩
      rw [bsize_append, bsize_freeB, show bsize (Blk.obj (ws j) :: A) = ((ws j).length + 1) + bsize A by simp [bsize, Blk.size], e2, h j (.head _) hj, hw]; lia
    · obtain ⟨A, B, e1, e2⟩ := heapB_obj pre (g + wn j) k post (fun i hi => h i (.tail _ hi)) hk
      exact ⟨A, B, by rw [if_neg hj, e1], by rw [e2, hw]; lia⟩
theorem objAt_flat {A B : List Blk} {w : List Int} : ObjAt (flat (A ++ .obj w :: B)) (bsize A) w := ⟨flat A, flat B, by simp [flat, Blk.ints], flat_length A⟩
theorem sweep_free {marked : List Int} {bs : List Blk} (gB off g : Nat) : sweepI marked (freeB gB ++ bs) off g = sweepI marked bs (off + gB) (g + gB) := by
  cases gB with
  | zero => rfl
  | succ z =>
    show sweepI marked (.free z :: bs) off g = _
    rw [sweepI.eq_2, if_neg (by simp [Blk.isFree])]
    rfl
theorem sweep_heap {full live : List Nat} {marked : List Int} {ws : Nat → List Int} {wn : Nat → Nat} (hsub : ∀ k ∈ live, k ∈ full) : ∀ (ks : List Nat) (off gB g : Nat), (∀ k ∈ ks, k ∈ full → (ws k).length + 1 = wn k) → (∀ pre k post, ks = pre ++ k :: post → k ∈ full → (((off + gB + wsum wn pre : Nat) : Int) ∈ marked ↔ k ∈ live)) →
    sweepI marked (heapB full ws wn ks gB) off g = flat (heapB live ws wn ks (g + gB))
  | [], off, gB, g, _, _ => by
    have := sweep_free (marked := marked) (bs := []) gB off g
    rw [List.append_nil] at this
    rw [heapB, heapB, this, flat_freeB]
    rfl
  | k :: ks, off, gB, g, h, hp => by
    have h0 := hp [] k ks rfl
    have hw0 : wsum wn [] = 0 := rfl
    rw [hw0, Nat.add_zero] at h0
    have hnext : ∀ pre j post, ks = pre ++ j :: post → j ∈ full → (((off + gB + wn k + wsum wn pre : Nat) : Int) ∈ marked ↔ j ∈ live) := fun pre j post e hj => by
      have := hp (k :: pre) j post (by rw [e]; rfl) hj
      rw [show wsum wn (k :: pre) = wn k + wsum wn pre by simp [wsum], ← Nat.add_assoc] at this
      exact this
    rw [heapB, heapB]
    by_cases hk : k ∈ full
    · rw [if_pos hk, sweep_free, sweepI]
      have hsz : (Blk.obj (ws k)).size = wn k := h k (.head _) hk
      by_cases hl : k ∈ live
      · rw [if_pos hl, if_pos ⟨rfl, (h0 hk).mpr hl⟩, sweep_heap hsub ks (off + gB + (Blk.obj (ws k)).size) 0 0 (fun j hj => h j (.tail _ hj)) (by rw [hsz, Nat.add_zero]; exact hnext), flat_append, flat_freeB]
        simp [flat]
      · rw [if_neg hl, if_neg fun q => hl ((h0 hk).mp q.2), sweep_heap hsub ks (off + gB + (Blk.obj (ws k)).size) 0 (g + gB + (Blk.obj (ws k)).size) (fun j hj => h j (.tail _ hj)) (by rw [hsz, Nat.add_zero]; exact hnext), hsz, Nat.add_zero]
    · have hl : k ∉ live := fun q => hk (hsub k q)
      rw [if_neg hk, if_neg hl, sweep_heap hsub ks off (gB + wn k) g (fun j hj => h j (.tail _ hj)) (by rw [← Nat.add_assoc]; exact hnext), ← Nat.add_assoc]
end Mine

namespace Mine
open PySem
set_option autoImplicit false
set_option maxRecDepth 100000
section
variable {n : Nat} {Φ : Nat → List PyData → Option PyData} {fuel : Nat}
noncomputable def bodyF : PSs := .cons (.store 6 (.add (.add (.var 5) (.int 1)) (.var 7)) (.idx (.var 1) (.var 7))) .nil
noncomputable def condA : PC := .and (.ex (.idx (.var 4) (.int 2))) (.ex (.cmp .ge (.idx (.var 4) (.int 1)) (.var 3)))
noncomputable def bodyAl : PSs := .cons (.ite condA (.cons (.assign 5 (.idx (.var 4) (.int 0)))
      (.cons (.assign 6 (.listOf (.var 0)))
      (.cons (.store 6 (.var 5) (.len (.var 1)))
      (.cons (.forR 7 (.len (.var 1)) bodyF)
      (.cons (.ite (.ex (.cmp .gt (.idx (.var 4) (.int 1)) (.var 3))) (.cons (.store 6 (.add (.var 5) (.var 3)) (.sub (.var 3) (.idx (.var 4) (.int 1)))) .nil) .nil)
      (.cons (.ret (.tuple (.cons (.var 6) (.cons (.var 5) .nil)))) .nil)))))) .nil) .nil
noncomputable def tight (need : Nat) (b : Blk) : Prop := b.isFree = false ∨ b.size < need
theorem loopTight {o0 o1 o2 o5 o6 o7 : Option PyData} {need : Nat} : ∀ (bs : List Blk) (off : Nat) (x : Option PyData), (∀ b ∈ bs, tight need b) → ∃ x', loopD (denSs Φ fuel bodyAl) 4 (bl bs off) [o0, o1, o2, some (.int (need : Int)), x, o5, o6, o7] = some (.next [o0, o1, o2, some (.int (need : Int)), x', o5, o6, o7])
  | [], off, x, _ => ⟨x, rfl⟩
  | b :: bs, off, x, h => by
    obtain ⟨h0, h1, h2⟩ := bTup_get off b
    obtain ⟨x', ih⟩ := loopTight (o0 := o0) (o1 := o1) (o2 := o2) (o5 := o5) (o6 := o6) (o7 := o7) (need := need) bs (off + b.size) (some (bTup off b)) (fun c hc => h c (.tail _ hc))
    refine ⟨x', ?_⟩
    rw [bl, loopD]
    have hb : denSs Φ fuel bodyAl [o0, o1, o2, some (.int (need : Int)), some (bTup off b), o5, o6, o7] = some (.next [o0, o1, o2, some (.int (need : Int)), some (bTup off b), o5, o6, o7]) := by
      refine step_next (s_skip ?_) ss_nil'
      have hc : denC Φ condA [o0, o1, o2, some (.int (need : Int)), some (bTup off b), o5, o6, o7] = some (if b.isFree then decide (((b.size : Int)) ≥ (need : Int)) else false) := by
        simp only [condA, dC_ex, dC_and, q_int, q_var, den_cmp, den_idx, Store.get, List.getElem?_cons_zero, List.getElem?_cons_succ, Option.join_some, Option.bind_some, h2, h1, o_ge, Option.map_some]
        cases b.isFree <;> rfl
      rw [hc]
      rcases h b (.head _) with hf | hf
      · rw [hf]; rfl
      · cases b.isFree with
        | false => rfl
        | true => simp; lia
    simp only [List.set_cons_succ, List.set_cons_zero]
    rw [hb]
    exact ih
theorem loopFill {A B fields : List Int} {hd : Int} {o0 o2 o3 o4 : Option PyData} (hA : A.length + fields.length + B.length ≤ 890) : ∀ (todo done Z : List Int) (x : Option PyData), fields = done ++ todo → Z.length = todo.length →
    ∃ x', loopD (denSs Φ fuel bodyF) 7 (items done.length todo.length) [o0, some (iL fields), o2, o3, o4, some (.int (A.length : Int)), some (iL (A ++ hd :: (done ++ Z ++ B))), x] = some (.next [o0, some (iL fields), o2, o3, o4, some (.int (A.length : Int)), some (iL (A ++ hd :: (done ++ todo ++ B))), x'])
  | [], done, Z, x, _, hZ => ⟨x, by rw [List.length_eq_zero_iff.mp hZ]; rfl⟩
  | v :: todo, done, [], x, _, hZ => by simp at hZ
  | v :: todo, done, z :: Z, x, hf, hZ => by
    simp only [List.length_cons] at hZ
    have hfl : fields.length = done.length + (todo.length + 1) := by rw [hf]; simp
    obtain ⟨x', ih⟩ := loopFill (o0 := o0) (o2 := o2) (o3 := o3) (o4 := o4) (hd := hd) hA todo (done ++ [v]) Z (some (.int (done.length : Int))) (by rw [hf]; simp) (by lia)
    refine ⟨x', ?_⟩
    rw [List.length_cons, items_succ, loopD]
    have hidx : fields[done.length]? = some v := by rw [hf]; simp
    have hset : (A ++ hd :: (done ++ z :: Z ++ B)).set (A.length + 1 + done.length) v = A ++ hd :: (done ++ [v] ++ Z ++ B) := by
      have e : A ++ hd :: (done ++ z :: Z ++ B) = (A ++ hd :: done) ++ (z :: (Z ++ B)) := by simp
      rw [e, show A.length + 1 + done.length = (A ++ hd :: done).length by simp <;> lia, List.set_append_right _ _ (Nat.le_refl _)]
      simp
    have hb : denSs Φ fuel bodyF [o0, some (iL fields), o2, o3, o4, some (.int (A.length : Int)), some (iL (A ++ hd :: (done ++ z :: Z ++ B))), some (.int (done.length : Int))] = some (.next [o0, some (iL fields), o2, o3, o4, some (.int (A.length : Int)), some (iL (A ++ hd :: (done ++ [v] ++ Z ++ B))), some (.int (done.length : Int))]) := by
      refine step_next (s_store' (d := .int v) (l := iL (A ++ hd :: (done ++ z :: Z ++ B))) (k := .int ((A.length + 1 + done.length : Nat) : Int)) (l' := iL (A ++ hd :: (done ++ [v] ++ Z ++ B))) ?_ rfl ?_ ?_) ss_nil'
      · simp only [q_var, den_idx, Store.get, List.getElem?_cons_zero, List.getElem?_cons_succ, Option.join_some, Option.bind_some]
        exact iL_idx hidx (by lia)
      · simp only [q_int, q_var, q_add, Store.get, List.getElem?_cons_zero, List.getElem?_cons_succ, Option.join_some, Option.bind_some, o_add]
        congr 2
      · rw [iL_set (by simp <;> lia) (by simp <;> unfold lim <;> lia), hset]
    simp only [List.set_cons_succ, List.set_cons_zero]
    rw [hb]
    simp only
    have e0 : (done ++ [v]).length = done.length + 1 := by simp
    rw [e0] at ih
    rw [ih]
    simp
end
end Mine

namespace Mine
open PySem
set_option autoImplicit false
set_option maxRecDepth 100000
section
variable {n : Nat} {Φ : Nat → List PyData → Option PyData} {fuel : Nat}
theorem loopD_ret {body : Store → Option Res} {x : Nat} {ys : List PyData} {σ σ' : Store} {d : PyData} {y : PyData} (xs : List PyData) (h1 : loopD body x xs σ = some (.next σ')) (h2 : body (σ'.set x (some y)) = some (.ret d)) : loopD body x (xs ++ y :: ys) σ = some (.ret d) := by
  rw [loopD_app xs σ h1, loopD, h2]
theorem bl_append : ∀ (a b : List Blk) (off : Nat), bl (a ++ b) off = bl a off ++ bl b (off + bsize a)
  | [], b, off => by simp [bl, bsize]
  | x :: a, b, off => by
    rw [List.cons_append, bl, bl_append a b, bl, List.cons_append, show bsize (x :: a) = x.size + bsize a by simp [bsize], Nat.add_assoc]
theorem stepFit {pre post : List Blk} {g : Nat} {fields : List Int} {o2 o5 o6 o7 : Option PyData} (hl : bsize (pre ++ .free g :: post) ≤ 800) (hfit : fields.length + 1 ≤ g + 1) :
    denSs Φ fuel bodyAl [some (iL (flat (pre ++ .free g :: post))), some (iL fields), o2, some (.int ((fields.length + 1 : Nat) : Int)), some (bTup (bsize pre) (.free g)), o5, o6, o7] =
      some (.ret (.tuple [iL (flat (pre ++ .obj fields :: (freeB (g + 1 - (fields.length + 1)) ++ post))), .int (bsize pre : Int)])) := by
  obtain ⟨h0, h1, h2⟩ := bTup_get (bsize pre) (.free g)
  have hsz : (Blk.free g).size = g + 1 := rfl
  rw [hsz] at h1
  have hbs : bsize (pre ++ .free g :: post) = bsize pre + (g + 1) + bsize post := by simp [bsize, Blk.size]; lia
  have hmem : flat (pre ++ .free g :: post) = flat pre ++ (-((g + 1 : Nat) : Int)) :: (zeros g ++ flat post) := by simp [flat, Blk.ints, fillN]
  have hml : (flat (pre ++ .free g :: post)).length ≤ 800 := by rw [flat_length]; exact hl
  have hpl : (flat pre).length = bsize pre := flat_length pre
  have hql : (flat post).length = bsize post := flat_length post
  refine step_ret ((s_ite_t ?_).trans ?_)
  · simp only [condA, dC_ex, dC_and, q_int, q_var, den_cmp, den_idx, Store.get, List.getElem?_cons_zero, List.getElem?_cons_succ, Option.join_some, Option.bind_some, h2, h1, o_ge, Option.map_some]
    rw [show (Blk.free g).isFree = true from rfl, if_pos rfl, decide_eq_true (by lia)]
  refine step_next (s_assign' (d := .int (bsize pre : Int)) (by simp only [q_int, q_var, den_idx, Store.get, List.getElem?_cons_zero, List.getElem?_cons_succ, Option.join_some, Option.bind_some, h0])) ?_
  refine step_next (s_assign' (d := iL (flat (pre ++ .free g :: post))) (by simp only [q_var, q_listOf, Store.get, List.set_cons_succ, List.set_cons_zero, List.getElem?_cons_zero, List.getElem?_cons_succ, Option.join_some, Option.bind_some]; exact iL_listOf (by unfold lim; lia))) ?_
  have hset1 : (flat (pre ++ .free g :: post)).set (bsize pre) (fields.length : Int) = flat pre ++ (fields.length : Int) :: (zeros fields.length ++ (zeros (g - fields.length) ++ flat post)) := by
    rw [hmem, ← hpl, List.set_append_right _ _ (Nat.le_refl _), Nat.sub_self, List.set_cons_zero, zeros_split (a := g) (b := fields.length) (by lia), List.append_assoc]
  refine step_next (s_store' (d := .int (fields.length : Int)) (l := iL (flat (pre ++ .free g :: post))) (k := .int (bsize pre : Int)) (l' := iL (flat pre ++ (fields.length : Int) :: (zeros fields.length ++ (zeros (g - fields.length) ++ flat post)))) ?_ rfl (by simp [q_var, Store.get]) ?_) ?_
  · simp only [q_var, q_len, Store.get, List.set_cons_succ, List.set_cons_zero, List.getElem?_cons_zero, List.getElem?_cons_succ, Option.join_some, Option.bind_some]
    exact iL_len (by unfold lim; lia)
  · rw [iL_set (by rw [flat_length]; lia) (by unfold lim; lia), hset1]
  obtain ⟨x', hf⟩ := loopFill (Φ := Φ) (fuel := fuel) (A := flat pre) (B := zeros (g - fields.length) ++ flat post) (fields := fields) (hd := (fields.length : Int)) (o0 := some (iL (flat (pre ++ .free g :: post)))) (o2 := o2) (o3 := some (.int ((fields.length + 1 : Nat) : Int))) (o4 := some (bTup (bsize pre) (.free g))) (by simp only [List.length_append, zeros_length, hpl, hql]; lia) fields [] (zeros fields.length) o7 rfl (zeros_length _)
  simp only [List.nil_append, List.length_nil, items_range, hpl, List.append_assoc] at hf
  refine step_next ((s_forR' (d := .int (fields.length : Int)) ?_ (range_items (by lia))).trans hf) ?_
  · simp only [q_var, q_len, Store.get, List.set_cons_succ, List.set_cons_zero, List.getElem?_cons_zero, List.getElem?_cons_succ, Option.join_some, Option.bind_some]
    exact iL_len (by unfold lim; lia)
  have hobj : flat (pre ++ .obj fields :: (freeB (g + 1 - (fields.length + 1)) ++ post)) = flat pre ++ (fields.length : Int) :: (fields ++ (fillN (g - fields.length) ++ flat post)) := by
    rw [show g + 1 - (fields.length + 1) = g - fields.length by lia, flat_append]
    show flat pre ++ ((Blk.obj fields).ints ++ flat (freeB (g - fields.length) ++ post)) = _
    rw [flat_append, flat_freeB]; simp [Blk.ints]
  rw [hobj]
  by_cases hbig : fields.length + 1 < g + 1
  · obtain ⟨z, hz⟩ : ∃ z, g - fields.length = z + 1 := ⟨g - fields.length - 1, by lia⟩
    rw [hz]
    have hset2 : (flat pre ++ (fields.length : Int) :: (fields ++ (zeros (z + 1) ++ flat post))).set (bsize pre + (fields.length + 1)) (((fields.length + 1 : Nat) : Int) - ((g + 1 : Nat) : Int)) = flat pre ++ (fields.length : Int) :: (fields ++ (fillN (z + 1) ++ flat post)) := by
      have e : flat pre ++ (fields.length : Int) :: (fields ++ (zeros (z + 1) ++ flat post)) = (flat pre ++ (fields.length : Int) :: fields) ++ (0 :: (zeros z ++ flat post)) := by simp [zeros, List.replicate_succ]
      rw [e, show bsize pre + (fields.length + 1) = (flat pre ++ (fields.length : Int) :: fields).length by simp [hpl], List.set_append_right _ _ (Nat.le_refl _), Nat.sub_self, List.set_cons_zero]
      have ev : ((fields.length + 1 : Nat) : Int) - ((g + 1 : Nat) : Int) = -((z + 1 : Nat) : Int) := by lia
      rw [ev]; simp [fillN]
    refine step_next ((s_ite_t ?_).trans (step_next (s_store' (d := .int (((fields.length + 1 : Nat) : Int) - ((g + 1 : Nat) : Int))) (l := iL (flat pre ++ (fields.length : Int) :: (fields ++ (zeros (z + 1) ++ flat post)))) (k := .int ((bsize pre + (fields.length + 1) : Nat) : Int)) (l' := iL (flat pre ++ (fields.length : Int) :: (fields ++ (fillN (z + 1) ++ flat post)))) ?_ rfl ?_ ?_) ss_nil')) ?_
    · simp only [dC_ex, q_int, q_var, den_cmp, den_idx, Store.get, List.getElem?_cons_zero, List.getElem?_cons_succ, Option.join_some, Option.bind_some, h1, o_gt, Option.map_some]
      rw [decide_eq_true (by lia)]
    · exact via rfl (via h1 rfl)
    · simp only [q_var, q_add, Store.get, List.getElem?_cons_zero, List.getElem?_cons_succ, Option.join_some, Option.bind_some, o_add]
      congr 2
    · rw [iL_set (by simp [hpl, hql, zeros_length] <;> lia) (by simp [hpl, hql, zeros_length] <;> unfold lim <;> lia), hset2]
    · exact step_ret (s_ret' (by simp [q_var, den_tuple, dEs_nil, dEs_cons, Store.get]))
  · have hz : g - fields.length = 0 := by lia
    rw [hz]
    refine step_next (s_skip ?_) (step_ret (s_ret' (by simp [q_var, den_tuple, dEs_nil, dEs_cons, Store.get, zeros, fillN])))
    simp only [dC_ex, q_int, q_var, den_cmp, den_idx, Store.get, List.getElem?_cons_zero, List.getElem?_cons_succ, Option.join_some, Option.bind_some, h1, o_gt, Option.map_some]
    rw [decide_eq_false (by lia)]
end
end Mine

namespace Mine
open PySem
set_option autoImplicit false
set_option maxRecDepth 100000
section
variable {n : Nat}
theorem c_alloc {pre post : List Blk} {g : Nat} {fields : List Int} (hl : bsize (pre ++ .free g :: post) ≤ 800) (hfit : fields.length + 1 ≤ g + 1) (ht : ∀ b ∈ pre, tight (fields.length + 1) b) :
    callD tab FU (n + 2) 5 [iL (flat (pre ++ .free g :: post)), iL fields] = some (.tuple [iL (flat (pre ++ .obj fields :: (freeB (g + 1 - (fields.length + 1)) ++ post))), .int (bsize pre : Int)]) := by
  refine call_run (fd := fd_allocate) rfl rfl rfl rfl ?_
  rw [show startStore fd_allocate [iL (flat (pre ++ .free g :: post)), iL fields] = [some (iL (flat (pre ++ .free g :: post))), some (iL fields), none, none, none, none, none, none] from rfl]
  have hb := c_blocks (n := n) (bs := pre ++ .free g :: post) (by lia)
  have hbs : bsize (pre ++ .free g :: post) = bsize pre + (g + 1) + bsize post := by simp [bsize, Blk.size]; lia
  obtain ⟨x', h1⟩ := loopTight (Φ := callD tab FU (n + 1)) (fuel := FU) (o0 := some (iL (flat (pre ++ .free g :: post)))) (o1 := some (iL fields)) (o2 := some (.list (bl (pre ++ .free g :: post) 0))) (o5 := none) (o6 := none) (o7 := none) (need := fields.length + 1) pre 0 none ht
  have h2 := stepFit (Φ := callD tab FU (n + 1)) (fuel := FU) (o2 := some (.list (bl (pre ++ .free g :: post) 0))) (o5 := none) (o6 := none) (o7 := none) hl hfit
  have h3 := loopD_ret (ys := bl post (bsize pre + (Blk.free g).size)) (y := bTup (bsize pre) (.free g)) (bl pre 0) h1 h2
  generalize hB : bl (pre ++ .free g :: post) 0 = BB at hb h1 h2 h3
  have hbl : BB = bl pre 0 ++ bTup (bsize pre) (.free g) :: bl post (bsize pre + (Blk.free g).size) := by rw [← hB, bl_append, Nat.zero_add, bl]
  have hBl : BB.length ≤ lim := by rw [← hB, bl_length]; have := len_le_bsize (pre ++ .free g :: post); unfold lim; lia
  rw [← hbl] at h3
  refine step_next (s_assign' (d := .list BB) (by exact hb)) ?_
  refine step_next (s_skip (by rfl)) ?_
  refine step_next (s_assign' (d := .int ((fields.length + 1 : Nat) : Int)) ?_) ?_
  · simp only [q_int, q_var, q_add, q_len, Store.get, List.set_cons_succ, List.set_cons_zero, List.getElem?_cons_zero, List.getElem?_cons_succ, Option.join_some, Option.bind_some, iL_len (show fields.length ≤ lim by unfold lim; lia), o_add]
    rfl
  refine step_ret ((s_forL' (d := .list BB) (by rfl) ?_).trans h3)
  simp only [o_xL, Bool.false_eq_true, if_false]
  rw [if_pos hBl]
theorem alloc_through {bs : List Blk} {fields : List Int} (hl : bsize bs ≤ 800) (hf : fields.length ≤ 100) (ht : ∀ b ∈ bs, tight (fields.length + 1) b) :
    ∃ σ', denSs (callD tab FU (n + 1)) FU (fd_allocate.body.take 4) (startStore fd_allocate [iL (flat bs), iL fields]) = some (.next σ') ∧ σ'.get 3 = some (.int ((fields.length + 1 : Nat) : Int)) := by
  have hb := c_blocks (n := n) (bs := bs) (by lia)
  obtain ⟨x', h1⟩ := loopTight (Φ := callD tab FU (n + 1)) (fuel := FU) (o0 := some (iL (flat bs))) (o1 := some (iL fields)) (o2 := some (.list (bl bs 0))) (o5 := none) (o6 := none) (o7 := none) (need := fields.length + 1) bs 0 none ht
  refine ⟨[some (iL (flat bs)), some (iL fields), some (.list (bl bs 0)), some (.int ((fields.length + 1 : Nat) : Int)), x', none, none, none], ?_, rfl⟩
  rw [show startStore fd_allocate [iL (flat bs), iL fields] = [some (iL (flat bs)), some (iL fields), none, none, none, none, none, none] from rfl]
  refine step_next (s_assign' (d := .list (bl bs 0)) (by exact hb)) ?_
  refine step_next (s_skip (by rfl)) ?_
  refine step_next (s_assign' (d := .int ((fields.length + 1 : Nat) : Int)) ?_) ?_
  · simp only [q_int, q_var, q_add, q_len, Store.get, List.set_cons_succ, List.set_cons_zero, List.getElem?_cons_zero, List.getElem?_cons_succ, Option.join_some, Option.bind_some, iL_len (show fields.length ≤ lim by unfold lim; lia), o_add]
    rfl
  refine step_next ((s_forL' (d := .list (bl bs 0)) (by rfl) ?_).trans h1) ss_nil'
  simp only [o_xL, Bool.false_eq_true, if_false]
  rw [if_pos (by rw [bl_length]; have := len_le_bsize bs; unfold lim; lia)]
end
end Mine

namespace Mine
open PySem
set_option autoImplicit false
set_option maxRecDepth 100000
structure Wid (rowOf : Nat → List Int) (wn : Nat → Nat) (full : List Nat) : Prop where
  small : ∀ k, k < 4 → (rowOf k).length ≤ 2
  fit : ∀ k ∈ full, (rowOf k).length + 1 = wn k
  four : ∀ k, k < 4 → k ∈ full
  five : ∀ k ∈ full, k < 5
  none4 : 4 ∉ full → wn 4 = 0
  wb : ∀ k, k < 6 → wn k ≤ 3
  nodup : full.Nodup
structure Ord (order : List Nat) : Prop where
  nodup : order.Nodup
  mem : ∀ k, k ∈ order ↔ k < 6
theorem Ord.perm {a b : List Nat} (ha : Ord a) (hb : Ord b) : a.Perm b := (List.perm_ext_iff_of_nodup ha.nodup hb.nodup).mpr fun k => (ha.mem k).trans (hb.mem k).symm
theorem ord_range : Ord (List.range 6) := ⟨by decide, fun k => by simp⟩
theorem wsum_perm {wn : Nat → Nat} {a b : List Nat} (h : a.Perm b) : wsum wn a = wsum wn b := (h.map wn).sum_nat
theorem wsum_append (wn : Nat → Nat) (a b : List Nat) : wsum wn (a ++ b) = wsum wn a + wsum wn b := by simp [wsum]
theorem wsum_cons (wn : Nat → Nat) (a : Nat) (b : List Nat) : wsum wn (a :: b) = wn a + wsum wn b := by simp [wsum]
theorem Ord.length {a : List Nat} (ha : Ord a) : a.length = 6 := by rw [(ha.perm ord_range).length_eq]; simp
noncomputable def pos (wn : Nat → Nat) : List Nat → Nat → Nat → Nat
  | [], g, _ => g
  | k :: ks, g, j => if k = j then g else pos wn ks (g + wn k) j
theorem pl_pos {wd : Nat → Int} {wn : Nat → Nat} : ∀ (ks : List Nat) (g j : Nat), (∀ k ∈ ks, wd k = (wn k : Int)) → plI wd ks (g : Int) j = (pos wn ks g j : Int)
  | [], g, j, _ => rfl
  | k :: ks, g, j, h => by
    unfold plI pos
    by_cases hk : k = j
    · rw [if_pos hk, if_pos hk]
    · rw [if_neg hk, if_neg hk, h k (.head _), show (g : Int) + (wn k : Int) = ((g + wn k : Nat) : Int) by lia]
      exact pl_pos ks _ j fun i hi => h i (.tail _ hi)
theorem pos_at {wn : Nat → Nat} {k : Nat} {post : List Nat} : ∀ (pre : List Nat) (g : Nat), k ∉ pre → pos wn (pre ++ k :: post) g k = g + wsum wn pre
  | [], g, _ => by simp [pos, wsum]
  | j :: pre, g, h => by
    have h1 : ¬ j = k := fun e => h (e ▸ .head _)
    rw [List.cons_append, pos, if_neg h1, pos_at pre _ fun q => h (.tail _ q), wsum_cons]; lia
theorem pos_ge {wn : Nat → Nat} : ∀ (ks : List Nat) (g j : Nat), g ≤ pos wn ks g j
  | [], g, j => Nat.le_refl _
  | k :: ks, g, j => by
    unfold pos
    split
    · exact Nat.le_refl _
    · exact Nat.le_trans (Nat.le_add_right _ _) (pos_ge ks _ j)
theorem pos_inj {wn : Nat → Nat} : ∀ (ks : List Nat) (g i j : Nat), i ∈ ks → j ∈ ks → 1 ≤ wn i → 1 ≤ wn j → pos wn ks g i = pos wn ks g j → i = j
  | k :: ks, g, i, j, hi, hj, wi, wj, e => by
    unfold pos at e
    by_cases h1 : k = i
    · by_cases h2 : k = j
      · lia
      · rw [if_pos h1, if_neg h2] at e
        have := pos_ge (wn := wn) ks (g + wn k) j
        rw [h1] at this; rw [h1] at e; lia
    · by_cases h2 : k = j
      · rw [if_neg h1, if_pos h2] at e
        have := pos_ge (wn := wn) ks (g + wn k) i
        rw [h2] at this; rw [h2] at e; lia
      · rw [if_neg h1, if_neg h2] at e
        exact pos_inj ks _ i j ((List.mem_cons.mp hi).resolve_left fun q => h1 q.symm) ((List.mem_cons.mp hj).resolve_left fun q => h2 q.symm) wi wj e
structure Liv (rowOf : Nat → List Int) (roots : List Int) (L : List Nat) : Prop where
  eq : L = liveN (Rof rowOf) (cells roots)
  nodup : L.Nodup
  lt4 : ∀ k ∈ L, k < 4
  closed : ∀ k ∈ L, ∀ c ∈ Rof rowOf k, cellIn (· ∈ L) c
  root : ∀ c ∈ cells roots, cellIn (· ∈ L) c
theorem liv (rowOf : Nat → List Int) (roots : List Int) : Liv rowOf roots (liveN (Rof rowOf) (cells roots)) := by
  have hR4 : ∀ k, below4 k → ∀ c ∈ Rof rowOf k, cellIn below4 c := fun k _ => cells_in (fun _ h => h) _
  have hr4 : ∀ c ∈ cells roots, cellIn below4 c := cells_in (fun _ h => h) _
  have hLS := live_sub (roots := cells roots) hR4 hr4
  have hnd := live_nodup (Rof rowOf) (cells roots)
  have hcl := live_closed (S := below4) (R := Rof rowOf) (roots := cells roots) (fun k h => by have : k < 4 := h; lia) hR4 hr4
  refine ⟨rfl, hnd, hLS, fun k hk c hc => ?_, fun c hc => ?_⟩
  · cases c with
    | ptr j => exact hcl k hk j hc
    | val v => exact cells_ok _ _ hc
  · cases c with
    | ptr j => exact live_roots hc
    | val v => exact cells_ok _ _ hc
theorem Liv.ptr {rowOf : Nat → List Int} {roots : List Int} {L : List Nat} (l : Liv rowOf roots L) {k j : Nat} (hk : k ∈ L) (h : Cell.ptr j ∈ cells (rowOf k)) : j ∈ L := l.closed k hk _ h
theorem Liv.rptr {rowOf : Nat → List Int} {roots : List Int} {L : List Nat} (l : Liv rowOf roots L) {j : Nat} (h : Cell.ptr j ∈ cells roots) : j ∈ L := l.root _ h
theorem Liv.len {rowOf : Nat → List Int} {roots : List Int} {L : List Nat} (l : Liv rowOf roots L) : L.length ≤ 4 := nodup_bound l.nodup l.lt4
noncomputable def wsOf (rowOf : Nat → List Int) (wn : Nat → Nat) (order : List Nat) (k : Nat) : List Int := words (pos wn order 0) (cells (rowOf k))
noncomputable def hpB (rowOf : Nat → List Int) (wn : Nat → Nat) (kept order : List Nat) : List Blk := heapB kept (wsOf rowOf wn order) wn order 0
noncomputable def hp (rowOf : Nat → List Int) (wn : Nat → Nat) (kept order : List Nat) : List Int := flat (hpB rowOf wn kept order)
theorem wsOf_len (rowOf : Nat → List Int) (wn : Nat → Nat) (order : List Nat) (k : Nat) : (wsOf rowOf wn order k).length = (rowOf k).length := by simp [wsOf, words_length, cells_length]
noncomputable def sizeW (wn : Nat → Nat) : Nat := wsum wn (List.range 6)
section
variable {n : Nat} {rowOf : Nat → List Int} {wn : Nat → Nat} {full kept order L : List Nat} {roots : List Int}
theorem hpB_size (W : Wid rowOf wn full) (O : Ord order) (hk : ∀ k ∈ kept, k ∈ full) : bsize (hpB rowOf wn kept order) = sizeW wn := by
  unfold hpB
  rw [heapB_size _ _ (fun k _ h => by rw [wsOf_len]; exact W.fit k (hk k h)), Nat.zero_add]
  exact wsum_perm (O.perm ord_range)
theorem hp_len (W : Wid rowOf wn full) (O : Ord order) (hk : ∀ k ∈ kept, k ∈ full) : (hp rowOf wn kept order).length = sizeW wn := by
  unfold hp; rw [flat_length, hpB_size W O hk]
theorem range6 : List.range 6 = [0, 1, 2, 3, 4, 5] := rfl
theorem size_le (W : Wid rowOf wn full) : sizeW wn ≤ 18 := by
  have h0 := W.wb 0 (by lia); have h1 := W.wb 1 (by lia); have h2 := W.wb 2 (by lia); have h3 := W.wb 3 (by lia); have h4 := W.wb 4 (by lia); have h5 := W.wb 5 (by lia)
  simp only [sizeW, wsum, range6, List.map_cons, List.map_nil, List.sum_cons, List.sum_nil]; lia
theorem Wid.pos1 (W : Wid rowOf wn full) {k : Nat} (h : k ∈ full) : 1 ≤ wn k := by have := W.fit k h; lia
theorem hp_holds (W : Wid rowOf wn full) (O : Ord order) (l : Liv rowOf roots L) (hk : ∀ k ∈ kept, k ∈ full) (hL : ∀ k ∈ L, k ∈ kept) : Holds (hp rowOf wn kept order) (pos wn order 0) (Rof rowOf) (· ∈ L) where
  inj := fun i j hi hj e => pos_inj order 0 i j ((O.mem i).mpr (by have := l.lt4 i hi; lia)) ((O.mem j).mpr (by have := l.lt4 j hj; lia)) (W.pos1 (hk i (hL i hi))) (W.pos1 (hk j (hL j hj))) e
  obj := fun k h => by
    obtain ⟨pre, post, e⟩ := List.append_of_mem ((O.mem k).mpr (by have := l.lt4 k h; lia))
    have hn : k ∉ pre := by
      have := O.nodup
      rw [e, List.nodup_append] at this
      exact fun q => this.2.2 k q k (.head _) rfl
    obtain ⟨A, B, e1, e2⟩ := heapB_obj (ws := wsOf rowOf wn order) (wn := wn) (kept := kept) pre 0 k post (fun i _ hi => by rw [wsOf_len]; exact W.fit i (hk i hi)) (hL k h)
    rw [← e] at e1
    have hp' : pos wn order 0 k = bsize A := by rw [e2, e, pos_at pre 0 hn]
    unfold hp hpB
    rw [hp', e1]
    exact objAt_flat
  cells := l.closed
  small := by rw [hp_len W O hk]; have := size_le W; lia
theorem Liv.lt8 (l : Liv rowOf roots L) : ∀ k, k ∈ L → k < 8 := fun k h => by have := l.lt4 k h; lia
theorem wide_pos {wide : List Int} (hw : ∀ k, k < 6 → wide[k]? = some (wn k : Int)) (O : Ord order) {j : Nat} (hj : j < 6) : dictGet (dP (fun k => (wn k : Int)) order 0) (j : Int) = some (pos wn order 0 j : Int) := by
  rw [dict_get order 0 j ((O.mem j).mpr hj)]
  exact congrArg some (pl_pos order 0 j fun _ _ => rfl)
theorem c_hp {rows : List (List Int)} {wide : List Int} (W : Wid rowOf wn full) (O : Ord order) (hk : ∀ k ∈ kept, k ∈ full) (hw : ∀ k, k < 6 → wide[k]? = some (wn k : Int)) (hr : ∀ k ∈ full, rows[k]? = some (rowOf k)) :
    callD tab FU (n + 2) 18 [iL (nL order), iLL rows, iL wide, iL (nL kept)] = some (iL (hp rowOf wn kept order)) := by
  have e := heapGo_flat (kept := kept) (p := pos wn order 0) (rowOf := rowOf) (wd := fun k => (wn k : Int)) (wn := wn) order 0 (fun _ _ => rfl)
  have e' : heapGo kept (pos wn order 0) rowOf (fun k => (wn k : Int)) order 0 = hp rowOf wn kept order := e
  have := c_heap (n := n) (order := order) (rows := rows) (wide := wide) (wd := fun k => (wn k : Int)) (kept := kept) (p := pos wn order 0) (rowOf := rowOf)
    (fun k h => ⟨hw k ((O.mem k).mp h), by have := (O.mem k).mp h; lia, by have := W.wb k ((O.mem k).mp h); lia⟩) O.nodup (by rw [O.length]; lia)
    (fun k h => ⟨hr k (hk k h), by have h1 := W.fit k (hk k h); have h2 := W.wb k (by have := W.five k (hk k h); lia); lia, fun j hj => wide_pos hw O (by have := ptr_lt hj; lia)⟩)
    (by rw [e', hp_len W O hk]; have := size_le W; lia)
  rw [e'] at this
  exact this
theorem c_pl {wide : List Int} (O : Ord order) (hw : ∀ k, k < 6 → wide[k]? = some (wn k : Int)) : callD tab FU (n + 1) 17 [iL (nL order), iL wide] = some (.dict (dP (fun k => (wn k : Int)) order 0)) :=
  c_places (fun k h => ⟨hw k ((O.mem k).mp h), by have := (O.mem k).mp h; lia⟩) O.nodup (by rw [O.length]; lia)
theorem c_held {wide : List Int} {row : List Int} (O : Ord order) (hw : ∀ k, k < 6 → wide[k]? = some (wn k : Int)) (hr : row.length ≤ 900) :
    callD tab FU (n + 1) 16 [iL row, .dict (dP (fun k => (wn k : Int)) order 0)] = some (iL (words (pos wn order 0) (cells row))) :=
  c_words (fun k hk => wide_pos hw O (by have := ptr_lt hk; lia)) hr
end
end Mine

namespace Mine
open PySem
set_option autoImplicit false
set_option maxRecDepth 100000
noncomputable def isum (wd : Nat → Int) (ks : List Nat) : Int := (ks.map wd).sum
theorem isum_cons (wd : Nat → Int) (k : Nat) (ks : List Nat) : isum wd (k :: ks) = wd k + isum wd ks := by simp [isum]
theorem isum_append (wd : Nat → Int) (a b : List Nat) : isum wd (a ++ b) = isum wd a + isum wd b := by simp [isum]
theorem isum_perm {wd : Nat → Int} {a b : List Nat} (h : a.Perm b) : isum wd a = isum wd b := by
  induction h with
  | nil => rfl
  | cons x _ ih => rw [isum_cons, isum_cons, ih]
  | swap x y l => rw [isum_cons, isum_cons, isum_cons, isum_cons]; lia
  | trans _ _ i1 i2 => exact i1.trans i2
theorem isum_nat (wn : Nat → Nat) : ∀ (ks : List Nat), isum (fun k => (wn k : Int)) ks = (wsum wn ks : Int)
  | [] => rfl
  | k :: ks => by rw [isum_cons, wsum_cons, isum_nat wn ks]; lia
theorem words_congr {p q : Nat → Nat} {cs : List Cell} (h : ∀ k, Cell.ptr k ∈ cs → p k = q k) : words p cs = words q cs := by
  unfold words
  refine List.map_congr_left fun c hc => ?_
  cases c with
  | ptr k => simp [Cell.word, h k hc]
  | val v => rfl
theorem blks_congr {p q : Nat → Nat} {R R' : Nat → List Cell} {L : List Nat} (hR : ∀ k ∈ L, R k = R' k) (h : ∀ k ∈ L, ∀ j, Cell.ptr j ∈ R k → p j = q j) : blks p R L = blks q R' L := by
  unfold blks
  induction L with
  | nil => rfl
  | cons k L ih =>
    rw [List.flatMap_cons, List.flatMap_cons, ih (fun k hk => hR k (.tail _ hk)) (fun k hk => h k (.tail _ hk))]
    congr 1
    unfold blk
    rw [words_congr (h k (.head _)), hR k (.head _)]
theorem heapGo_rest {kept : List Nat} {p : Nat → Nat} {rowOf : Nat → List Int} {wd : Nat → Int} : ∀ (rest : List Nat) (g : Int), (∀ k ∈ rest, k ∉ kept) → heapGo kept p rowOf wd rest g = fillN (g + isum wd rest).toNat
  | [], g, _ => by simp [heapGo, isum]
  | k :: ks, g, h => by rw [heapGo, if_neg (h k (.head _)), heapGo_rest ks _ fun j hj => h j (.tail _ hj), isum_cons, Int.add_assoc]
theorem heapGo_pack {kept : List Nat} {p : Nat → Nat} {rowOf : Nat → List Int} {wd : Nat → Int} {rest : List Nat} (hr : ∀ k ∈ rest, k ∉ kept) : ∀ (L : List Nat), (∀ k ∈ L, k ∈ kept) → heapGo kept p rowOf wd (L ++ rest) 0 = blks p (Rof rowOf) L ++ fillN (isum wd rest).toNat
  | [], _ => by rw [List.nil_append, heapGo_rest rest 0 hr, Int.zero_add]; rfl
  | k :: L, h => by
    rw [List.cons_append, heapGo, if_pos (h k (.head _)), heapGo_pack hr L fun j hj => h j (.tail _ hj)]
    simp [blks, blk, Rof, cells_length, fillN]
theorem plI_at {wd : Nat → Int} {k : Nat} {post : List Nat} : ∀ (pre : List Nat) (g : Int), k ∉ pre → plI wd (pre ++ k :: post) g k = g + isum wd pre
  | [], g, _ => by simp [plI, isum]
  | j :: pre, g, h => by
    have h1 : ¬ j = k := fun e => h (e ▸ .head _)
    rw [List.cons_append, plI, if_neg h1, plI_at pre _ fun q => h (.tail _ q), isum_cons]; lia
theorem plI_pack {wd : Nat → Int} {R : Nat → List Cell} {L rest : List Nat} (hn : L.Nodup) (hw : ∀ k ∈ L, wd k = (sz R k : Int)) {k : Nat} (hk : k ∈ L) : plI wd (L ++ rest) 0 k = (offs R L k : Int) := by
  obtain ⟨pre, post, e⟩ := List.append_of_mem hk
  have hk' : k ∉ pre := by
    rw [e, List.nodup_append] at hn
    exact fun q => hn.2.2 k q k (.head _) rfl
  rw [offs_at e hk', e, List.append_assoc, List.cons_append, plI_at pre 0 hk', Int.zero_add]
  have : ∀ (ks : List Nat), (∀ k ∈ ks, wd k = (sz R k : Int)) → isum wd ks = (total R ks : Int) := fun ks => by
    induction ks with
    | nil => intro _; rfl
    | cons j ks ih => intro h; rw [isum_cons, ih fun i hi => h i (.tail _ hi), h j (.head _)]; simp [total]
  exact this pre fun j hj => hw j (by rw [e]; exact List.mem_append_left _ hj)
theorem mem_packN {L : List Nat} (h6 : ∀ k ∈ L, k < 6) (k : Nat) : k ∈ packN L ↔ k < 6 := by
  unfold packN
  rw [List.mem_append, List.mem_filter]
  constructor
  · rintro (h | h)
    · exact h6 k h
    · exact List.mem_range.mp h.1
  · intro h
    by_cases hk : k ∈ L
    · exact .inl hk
    · exact .inr ⟨List.mem_range.mpr h, by simp [hk]⟩
noncomputable def restN (L : List Nat) : List Nat := (List.range 6).filter (fun k => !decide (k ∈ L))
theorem packN_eq (L : List Nat) : packN L = L ++ restN L := rfl
theorem mem_restN {L : List Nat} {k : Nat} : k ∈ restN L ↔ k < 6 ∧ k ∉ L := by
  unfold restN
  rw [List.mem_filter]; simp
theorem restN_nodup (L : List Nat) : (restN L).Nodup := List.Pairwise.filter _ (by decide : (List.range 6).Nodup)
theorem ord_packN {L : List Nat} (hn : L.Nodup) (h6 : ∀ k ∈ L, k < 6) : Ord (packN L) where
  nodup := by
    rw [packN_eq, List.nodup_append]
    exact ⟨hn, restN_nodup L, fun a ha b hb e => (mem_restN.mp hb).2 (e ▸ ha)⟩
  mem := mem_packN h6
section
variable {n : Nat} {rowOf : Nat → List Int} {wn : Nat → Nat} {full kept order L : List Nat} {roots : List Int}
theorem Liv.lt6 (l : Liv rowOf roots L) : ∀ k ∈ L, k < 6 := fun k h => by have := l.lt4 k h; lia
theorem Liv.ord (l : Liv rowOf roots L) : Ord (packN L) := ord_packN l.nodup l.lt6
theorem Liv.inF (l : Liv rowOf roots L) (W : Wid rowOf wn full) : ∀ k ∈ L, k ∈ full := fun k h => W.four k (l.lt4 k h)
theorem Wid.sz (W : Wid rowOf wn full) {k : Nat} (h : k ∈ full) : sz (Rof rowOf) k = wn k := by
  rw [← W.fit k h]; simp [Mine.sz, Rof, cells_length]
theorem Wid.total (W : Wid rowOf wn full) : ∀ {ks : List Nat}, (∀ k ∈ ks, k ∈ full) → Mine.total (Rof rowOf) ks = wsum wn ks
  | [], _ => rfl
  | k :: ks, h => by rw [wsum_cons, ← W.total (ks := ks) fun j hj => h j (.tail _ hj), ← W.sz (h k (.head _))]; simp [Mine.total]
theorem used_rest (l : Liv rowOf roots L) : wsum wn L + wsum wn (restN L) = sizeW wn := by
  rw [← wsum_append]; exact wsum_perm (l.ord.perm ord_range)
theorem total_le (W : Wid rowOf wn full) (l : Liv rowOf roots L) : Mine.total (Rof rowOf) L ≤ sizeW wn := by
  rw [W.total (l.inF W)]; have := used_rest (wn := wn) l; lia
noncomputable def mvM (rowOf : Nat → List Int) (wn : Nat → Nat) (L : List Nat) : List Int := blks (offs (Rof rowOf) L) (Rof rowOf) L ++ fillN (sizeW wn - Mine.total (Rof rowOf) L)
noncomputable def mvR (rowOf : Nat → List Int) (L : List Nat) (roots : List Int) : List Int := words (offs (Rof rowOf) L) (cells roots)
noncomputable def seenD (rowOf : Nat → List Int) (L : List Nat) (roots : List Int) : PyData := .tuple [iL (words (rk L) (cells roots)), iLL (shown (rk L) (Rof rowOf) L)]
noncomputable def movedD (rowOf : Nat → List Int) (wn : Nat → Nat) (L : List Nat) (roots : List Int) : PyData := .tuple [iL (mvM rowOf wn L), iL (mvR rowOf L roots)]
theorem pos_pack (W : Wid rowOf wn full) (l : Liv rowOf roots L) {k : Nat} (hk : k ∈ L) : pos wn (packN L) 0 k = offs (Rof rowOf) L k := by
  have h1 := pl_pos (wd := fun k => (wn k : Int)) (wn := wn) (packN L) 0 k (fun _ _ => rfl)
  have h2 := plI_pack (wd := fun k => (wn k : Int)) (R := Rof rowOf) (rest := restN L) l.nodup (fun j hj => by rw [W.sz (l.inF W j hj)]) hk
  rw [← packN_eq] at h2
  have := h1.symm.trans h2
  lia
theorem hp_packed (W : Wid rowOf wn full) (l : Liv rowOf roots L) : hp rowOf wn L (packN L) = mvM rowOf wn L := by
  have e := heapGo_flat (kept := L) (p := pos wn (packN L) 0) (rowOf := rowOf) (wd := fun k => (wn k : Int)) (wn := wn) (packN L) 0 (fun _ _ => rfl)
  have e2 := heapGo_pack (kept := L) (p := pos wn (packN L) 0) (rowOf := rowOf) (wd := fun k => (wn k : Int)) (rest := restN L) (fun k hk => (mem_restN.mp hk).2) L (fun _ h => h)
  rw [← packN_eq] at e2
  have e3 : hp rowOf wn L (packN L) = blks (pos wn (packN L) 0) (Rof rowOf) L ++ fillN (isum (fun k => (wn k : Int)) (restN L)).toNat := e.symm.trans e2
  rw [e3, isum_nat]
  unfold mvM
  rw [blks_congr (p := pos wn (packN L) 0) (q := offs (Rof rowOf) L) (R := Rof rowOf) (R' := Rof rowOf) (fun _ _ => rfl) (fun k hk j hj => pos_pack W l (l.ptr hk hj)), W.total (l.inF W)]
  have := used_rest (wn := wn) l
  rw [show ((wsum wn (restN L) : Nat) : Int).toNat = sizeW wn - wsum wn L by lia]
theorem held_packed (W : Wid rowOf wn full) (l : Liv rowOf roots L) : words (pos wn (packN L) 0) (cells roots) = mvR rowOf L roots :=
  words_congr fun k hk => pos_pack W l (l.rptr hk)
theorem roots_le {roots : List Int} (h : roots.length ≤ 3) : (cells roots).length ≤ 100 := by rw [cells_length]; lia
theorem cp_shape (W : Wid rowOf wn full) (O : Ord order) (l : Liv rowOf roots L) (hr : roots.length ≤ 3) (hk : ∀ k ∈ kept, k ∈ full) (hL : ∀ k ∈ L, k ∈ kept) :
    callD tab FU (n + 3) 14 [iL (hp rowOf wn kept order), iL (words (pos wn order 0) (cells roots))] = some (seenD rowOf L roots) := by
  have := c_shape (n := n) (hp_holds W O l hk hL) l.lt8 l.root (roots_le hr)
  rw [← l.eq] at this
  exact this
theorem cp_copy (W : Wid rowOf wn full) (O : Ord order) (l : Liv rowOf roots L) (hr : roots.length ≤ 3) (hk : ∀ k ∈ kept, k ∈ full) (hL : ∀ k ∈ L, k ∈ kept) :
    callD tab FU (n + 3) 13 [iL (hp rowOf wn kept order), iL (words (pos wn order 0) (cells roots))] = some (movedD rowOf wn L roots) := by
  have := c_copy (n := n) (hp_holds W O l hk hL) l.lt8 l.root (roots_le hr) (by rw [← l.eq, hp_len W O hk]; exact total_le W l)
  rw [← l.eq, hp_len W O hk] at this
  exact this
theorem cp_live (W : Wid rowOf wn full) (O : Ord order) (l : Liv rowOf roots L) (hr : roots.length ≤ 3) (hk : ∀ k ∈ kept, k ∈ full) (hL : ∀ k ∈ L, k ∈ kept) :
    callD tab FU (n + 3) 9 [iL (hp rowOf wn kept order), iL (words (pos wn order 0) (cells roots))] = some (.int (wsum wn L : Int)) := by
  have := c_liveWords (n := n) (hp_holds W O l hk hL) l.lt8 l.root (roots_le hr)
  rw [← l.eq, W.total (l.inF W)] at this
  exact this
theorem cp_sweep (W : Wid rowOf wn full) (O : Ord order) (l : Liv rowOf roots L) (hr : roots.length ≤ 3) (hk : ∀ k ∈ kept, k ∈ full) (hL : ∀ k ∈ L, k ∈ kept) :
    callD tab FU (n + 3) 11 [iL (hp rowOf wn kept order), iL (words (pos wn order 0) (cells roots))] = some (iL (hp rowOf wn L order)) := by
  have h1 := c_reach (n := n) (hp_holds W O l hk hL) l.lt8 l.root (roots_le hr)
  rw [← l.eq] at h1
  have hb := hpB_size W O hk
  have h2 := c_swept (n := n) (bs := hpB rowOf wn kept order) (marked := pls (pos wn order 0) L) (by have := size_le W; lia)
  have h3 := sweep_heap (full := kept) (live := L) (marked := pls (pos wn order 0) L) (ws := wsOf rowOf wn order) (wn := wn) hL order 0 0 0 (fun k _ h => by rw [wsOf_len]; exact W.fit k (hk k h)) fun pre k post e hkk => by
    have hn : k ∉ pre := by
      have := O.nodup
      rw [e, List.nodup_append] at this
      exact fun q => this.2.2 k q k (.head _) rfl
    have hpk : pos wn order 0 k = 0 + 0 + wsum wn pre := by rw [e, pos_at pre 0 hn]
    rw [← hpk]
    exact mem_pls (S := (· ∈ kept)) (fun i j hi hj e => pos_inj order 0 i j ((O.mem i).mpr (by have := W.five i (hk i hi); lia)) ((O.mem j).mpr (by have := W.five j (hk j hj); lia)) (W.pos1 (hk i hi)) (W.pos1 (hk j hj)) e) hL hkk
  refine call_run (fd := fd_collected_by_sweeping) rfl rfl rfl rfl (step_ret (s_ret' ?_))
  rw [show startStore fd_collected_by_sweeping [iL (hp rowOf wn kept order), iL (words (pos wn order 0) (cells roots))] = [some (iL (hp rowOf wn kept order)), some (iL (words (pos wn order 0) (cells roots)))] from rfl]
  simp only [q_var, q_call, dEs_nil, dEs_cons, Store.get, List.getElem?_cons_zero, List.getElem?_cons_succ, Option.join_some, Option.bind_some, h1]
  have h2' : callD tab FU (n + 2) 10 [iL (hp rowOf wn kept order), iL (pls (pos wn order 0) L)] = some (iL (sweepI (pls (pos wn order 0) L) (hpB rowOf wn kept order) 0 0)) := h2
  rw [h2']
  unfold hpB
  rw [h3]
  rfl
theorem freeSum_append (a b : List Blk) : freeSum (a ++ b) = freeSum a + freeSum b := by simp [freeSum]
theorem freeSum_freeB (g : Nat) : freeSum (freeB g) = g := by cases g <;> simp [freeB, freeSum, Blk.isFree, Blk.size]
theorem freeSum_heapB {kept : List Nat} {ws : Nat → List Int} : ∀ (ks : List Nat) (g : Nat), freeSum (heapB kept ws wn ks g) = g + wsum wn (ks.filter fun k => !decide (k ∈ kept))
  | [], g => by simp [heapB, freeSum_freeB, wsum]
  | k :: ks, g => by
    rw [heapB]
    by_cases hk : k ∈ kept
    · rw [if_pos hk, freeSum_append, freeSum_freeB, List.filter_cons_of_neg (by simp [hk]), show freeSum (Blk.obj (ws k) :: heapB kept ws wn ks 0) = freeSum (heapB kept ws wn ks 0) by simp [freeSum, Blk.isFree], freeSum_heapB ks 0, Nat.zero_add]
    · rw [if_neg hk, freeSum_heapB ks, List.filter_cons_of_pos (by simp [hk]), wsum_cons]; lia
theorem cp_free (W : Wid rowOf wn full) (O : Ord order) (l : Liv rowOf roots L) : callD tab FU (n + 2) 4 [iL (hp rowOf wn L order)] = some (.int ((sizeW wn : Int) - (wsum wn L : Int))) := by
  have h := c_free (n := n) (bs := hpB rowOf wn L order) (by rw [hpB_size W O (l.inF W)]; have := size_le W; lia)
  have e : freeSum (hpB rowOf wn L order) = wsum wn (restN L) := by
    unfold hpB
    rw [freeSum_heapB, Nat.zero_add]
    refine wsum_perm ((List.perm_ext_iff_of_nodup (List.Pairwise.filter _ O.nodup) (restN_nodup L)).mpr fun k => ?_)
    rw [mem_restN, List.mem_filter, O.mem]; simp
  have := used_rest (wn := wn) l
  rw [e, show ((wsum wn (restN L) : Nat) : Int) = (sizeW wn : Int) - (wsum wn L : Int) by lia] at h
  exact h
end
end Mine

namespace Mine
open PySem
set_option autoImplicit false
set_option maxRecDepth 100000
noncomputable def sums : List (List Int) → Int → List Int
  | [], _ => []
  | r :: rs, t => (t + r.length + 1) :: sums rs (t + r.length + 1)
theorem sums_length : ∀ (rs : List (List Int)) (t : Int), (sums rs t).length = rs.length
  | [], _ => rfl
  | r :: rs, t => by simp [sums, sums_length rs]
theorem sums_get {q : Nat → Nat} {R : Nat → List Cell} : ∀ (L : List Nat) (t : Int) (i : Nat), i ≤ L.length → (t :: sums (shown q R L) t)[i]? = some (t + (total R (L.take i) : Int))
  | _, t, 0, _ => by simp [total]
  | k :: L, t, i + 1, h => by
    have ih := sums_get (q := q) (R := R) L (t + (words q (R k)).length + 1) i (by simp at h; lia)
    rw [List.getElem?_cons_succ, show shown q R (k :: L) = words q (R k) :: shown q R L from rfl, sums, ih, words_length]
    simp only [List.take_succ_cons, total, List.map_cons, List.sum_cons, sz]
    congr 1; lia
section
variable {n : Nat} {Φ : Nat → List PyData → Option PyData} {fuel : Nat}
noncomputable def bodyAt : PSs := .cons (.append 2 (.add (.add (.last (.var 2)) (.len (.var 3))) (.int 1))) .nil
theorem last_iL {xs : List Int} {t : Int} (h : xs.getLast? = some t) (hl : xs.length ≤ lim) : dLast (iL xs) = some (.int t) := by
  unfold iL dLast; simp only [List.length_map]; rw [if_pos hl, List.getLast?_map, h]; rfl
theorem loopAt {o0 o1 o4 : Option PyData} : ∀ (rs : List (List Int)) (acc : List Int) (t : Int) (x : Option PyData), acc.getLast? = some t → acc.length + rs.length ≤ 900 → (∀ r ∈ rs, r.length ≤ 900) →
    ∃ x', loopD (denSs Φ fuel bodyAt) 3 (rs.map iL) [o0, o1, some (iL acc), x, o4] = some (.next [o0, o1, some (iL (acc ++ sums rs t)), x', o4])
  | [], acc, t, x, _, _, _ => ⟨x, by simp [sums, o_l0]⟩
  | r :: rs, acc, t, x, ht, hl, hr => by
    simp only [List.length_cons] at hl
    obtain ⟨x', ih⟩ := loopAt (o0 := o0) (o1 := o1) (o4 := o4) rs (acc ++ [t + r.length + 1]) (t + r.length + 1) (some (iL r)) (by simp) (by simp; lia) (fun s hs => hr s (.tail _ hs))
    refine ⟨x', ?_⟩
    rw [List.map_cons, loopD]
    have hrl := hr r (.head _)
    have hb : denSs Φ fuel bodyAt ([o0, o1, some (iL acc), x, o4].set 3 (some (iL r))) = some (.next [o0, o1, some (iL (acc ++ [t + r.length + 1])), some (iL r), o4]) := by
      refine step_next (s_append' (l := iL acc) (d := .int (t + r.length + 1)) rfl ?_ (iL_append (by unfold lim; lia))) ss_nil'
      simp only [q_int, q_var, q_add, q_last, q_len, Store.get, List.set_cons_succ, List.set_cons_zero, List.getElem?_cons_zero, List.getElem?_cons_succ, Option.join_some, Option.bind_some, last_iL ht (by unfold lim; lia), iL_len (show r.length ≤ lim by unfold lim; lia), o_add]
    rw [hb]
    simp only
    rw [ih]
    simp [sums]
noncomputable def eltT : PE := .ite (.ex (.cmp .eq (.mod (.var 0) (.int 2)) (.int 1))) (.add (.mulc 2 (.idx (.var 1) (.divc (.var 0) 2))) (.int 1)) (.var 0)
theorem compT {q o : Nat → Nat} {at_ : List Int} : ∀ (cs : List Cell), (∀ c ∈ cs, c.ok) → (∀ k, Cell.ptr k ∈ cs → at_[q k]? = some (o k : Int) ∧ q k < 900) →
    compD (fun _ => some true) (fun d => denE Φ eltT [some d, some (iL at_)]) ((words q cs).map .int) = some ((words o cs).map .int)
  | [], _, _ => rfl
  | c :: cs, ho, h => by
    have ih := compT cs (fun d hd => ho d (.tail _ hd)) (fun k hk => h k (.tail _ hk))
    have hm : ∀ z : Int, z.fmod 2 = z % 2 := fun z => Int.fmod_eq_emod_of_nonneg z (by decide)
    have hd : ∀ z : Int, z.fdiv 2 = z / 2 := fun z => Int.fdiv_eq_ediv_of_nonneg z (by decide)
    have hc : denE Φ eltT [some (.int (c.word q)), some (iL at_)] = some (.int (c.word o)) := by
      cases c with
      | val v =>
        have hv : ¬ (v % 2 = 1) := by have : v % 2 = 0 := ho (.val v) (.head _); lia
        simp [eltT, q_int, q_var, q_add, q_mulc, q_mod, q_divc, den_cmp, q_ite, den_idx, dC_ex, Store.get, Cell.word, o_mod, hm, cmp_eq_int, hv]
      | ptr k =>
        obtain ⟨h1, h2⟩ := word_ptr q k
        obtain ⟨h3, h4⟩ := h k (.head _)
        simp only [eltT, q_int, q_var, q_add, q_mulc, q_mod, q_divc, den_cmp, q_ite, den_idx, dC_ex, Store.get, List.getElem?_cons_zero, List.getElem?_cons_succ, Option.join_some, Option.bind_some, o_mod, hm, show ¬ ((2 : Int) = 0) by decide, if_false, cmp_eq_int, h1, decide_true, Option.map_some, if_true, o_divc, hd, h2, iL_idx h3 (by lia), o_mulc, show ((2 : Int).natAbs < 4294967296) by decide, o_add]
        rfl
    show compD _ _ (PyData.int (c.word q) :: (words q cs).map .int) = _
    rw [compD]
    simp only [PyData.canLay0, if_true, hc, ih]
    rfl
noncomputable def objB (o : Nat → Nat) (R : Nat → List Cell) (ks : List Nat) : List Blk := ks.map fun k => .obj (words o (R k))
theorem objB_flat (o : Nat → Nat) (R : Nat → List Cell) : ∀ (ks : List Nat), flat (objB o R ks) = blks o R ks
  | [] => rfl
  | k :: ks => by
    rw [show objB o R (k :: ks) = [.obj (words o (R k))] ++ objB o R ks from rfl, flat_append, objB_flat o R ks]
    simp [flat, Blk.ints, blks, blk, words_length]
theorem objB_size (o : Nat → Nat) (R : Nat → List Cell) (ks : List Nat) : bsize (objB o R ks) = total R ks := by
  rw [← flat_length, objB_flat, blks_length]
noncomputable def cmpT (e : PE) : PE := .comp (Str.ofString "w") [2] false e .tt eltT
noncomputable def bodyRl : PSs := .cons (.assign 4 (.idx (.call 5 (.cons (.var 4) (.cons (cmpT (.var 3)) .nil))) (.int 0))) .nil
theorem loopRl {q o : Nat → Nat} {R : Nat → List Cell} {at_ : List Int} {o0 o1 : Option PyData} : ∀ (ks : List Nat) (pre : List Blk) (z : Nat) (x : Option PyData), (∀ b ∈ pre, b.isFree = false) → total R ks ≤ z → bsize pre + z ≤ 800 →
    (∀ k ∈ ks, (∀ c ∈ R k, c.ok) ∧ ∀ j, Cell.ptr j ∈ R k → at_[q j]? = some (o j : Int) ∧ q j < 900) →
    ∃ x', loopD (denSs (callD tab FU (n + 2)) fuel bodyRl) 3 ((shown q R ks).map iL) [o0, o1, some (iL at_), x, some (iL (flat (pre ++ freeB z)))] = some (.next [o0, o1, some (iL at_), x', some (iL (flat (pre ++ objB o R ks ++ freeB (z - total R ks))))])
  | [], pre, z, x, _, _, _, _ => ⟨x, by simp [shown, objB, total, o_l0]⟩
  | k :: ks, pre, z, x, hf, hz, hl, h => by
    have ht : total R (k :: ks) = sz R k + total R ks := by simp [total]
    have hs : sz R k = (R k).length + 1 := rfl
    obtain ⟨g, rfl⟩ : ∃ g, z = g + 1 := ⟨z - 1, by lia⟩
    have hwl : (words o (R k)).length = (R k).length := words_length _ _
    obtain ⟨x', ih⟩ := loopRl (q := q) (o := o) (R := R) (at_ := at_) (o0 := o0) (o1 := o1) ks (pre ++ [.obj (words o (R k))]) (g + 1 - sz R k) (some (iL (words q (R k)))) (fun b hb => by
      rcases List.mem_append.mp hb with hb | hb
      · exact hf b hb
      · rw [List.mem_singleton.mp hb]; rfl) (by lia) (by rw [bsize_append]; simp only [bsize, List.map_cons, List.map_nil, List.sum_cons, List.sum_nil, Blk.size]; unfold bsize at hl; lia) (fun j hj => h j (.tail _ hj))
    refine ⟨x', ?_⟩
    obtain ⟨hok, hpt⟩ := h k (.head _)
    have hcomp := compT (Φ := callD tab FU (n + 2)) (R k) hok hpt
    have hal := c_alloc (n := n) (pre := pre) (post := []) (g := g) (fields := words o (R k)) (by rw [bsize_append]; simp only [bsize, List.map_cons, List.map_nil, List.sum_cons, List.sum_nil, Blk.size]; unfold bsize at hl; lia) (by lia) (fun b hb => .inl (hf b hb))
    show loopD _ 3 (iL (words q (R k)) :: (shown q R ks).map iL) _ = _
    rw [loopD]
    have hb : denSs (callD tab FU (n + 2)) fuel bodyRl ([o0, o1, some (iL at_), x, some (iL (flat (pre ++ freeB (g + 1))))].set 3 (some (iL (words q (R k))))) = some (.next [o0, o1, some (iL at_), some (iL (words q (R k))), some (iL (flat ((pre ++ [.obj (words o (R k))]) ++ freeB (g + 1 - sz R k))))]) := by
      refine step_next (s_assign' (d := iL (flat ((pre ++ [.obj (words o (R k))]) ++ freeB (g + 1 - sz R k)))) ?_) ss_nil'
      have hc2 : denE (callD tab FU (n + 2)) (cmpT (.var 3)) [o0, o1, some (iL at_), some (iL (words q (R k))), some (iL (flat (pre ++ freeB (g + 1))))] = some (iL (words o (R k))) := by
        refine e_comp' (d := iL (words q (R k))) (by rfl) (iL_items (by rw [words_length]; unfold lim; lia)) hcomp
      simp only [List.set_cons_succ, List.set_cons_zero]
      simp only [q_int, q_var, den_idx, q_call, dEs_nil, dEs_cons, hc2, Store.get, List.getElem?_cons_zero, List.getElem?_cons_succ, Option.join_some, Option.bind_some]
      rw [show freeB (g + 1) = [Blk.free g] from rfl, hal]
      simp only [Option.bind_some, o_iT]
      rw [if_pos (by decide), hwl, hs]
      simp
    rw [hb]
    simp only
    rw [ih, ht]
    simp only [List.append_assoc, List.cons_append, List.nil_append, show g + 1 - sz R k - total R ks = g + 1 - (sz R k + total R ks) by lia]
    rfl
theorem take_rk {L : List Nat} {k : Nat} (hk : k ∈ L) : L.takeWhile (· ≠ k) = L.take (rk L k) ∧ rk L k < L.length := by
  induction L with
  | nil => cases hk
  | cons j L ih =>
    unfold rk at *
    by_cases h : j = k
    · subst h; simp
    · have := ih ((List.mem_cons.mp hk).resolve_left fun q => h q.symm)
      rw [List.idxOf_cons]
      have hb : (j == k) = false := by simp [h]
      rw [List.takeWhile_cons]
      simp only [hb, cond_false, List.take_succ_cons, List.length_cons]
      rw [if_pos (by simp [h]), this.1]
      exact ⟨rfl, by lia⟩
theorem c_relaid {rowOf : Nat → List Int} {wn : Nat → Nat} {full L : List Nat} {roots : List Int} (W : Wid rowOf wn full) (l : Liv rowOf roots L) (hr : roots.length ≤ 3) :
    callD tab FU (n + 3) 22 [seenD rowOf L roots, .int (sizeW wn : Int)] = some (movedD rowOf wn L roots) := by
  refine call_run (fd := fd_law_relaid) rfl rfl rfl rfl ?_
  have hL := l.len
  have hsl := size_le W
  have hs1 : 1 ≤ sizeW wn := by
    have := W.pos1 (W.four 0 (by lia))
    simp only [sizeW, wsum, range6, List.map_cons, List.map_nil, List.sum_cons, List.sum_nil]; lia
  have hlen2 : ∀ r ∈ shown (rk L) (Rof rowOf) L, r.length ≤ 900 := fun r hr => by
    obtain ⟨k, hk, rfl⟩ := List.mem_map.mp hr
    have := W.small k (l.lt4 k hk)
    rw [words_length]; simp only [Rof, cells_length]; lia
  have hsh : (shown (rk L) (Rof rowOf) L).length = L.length := by simp [shown]
  obtain ⟨x1, h1⟩ := loopAt (Φ := callD tab FU (n + 2)) (fuel := FU) (o0 := some (seenD rowOf L roots)) (o1 := some (.int (sizeW wn : Int))) (o4 := none) (shown (rk L) (Rof rowOf) L) [0] 0 none rfl (by rw [hsh]; simp; lia) hlen2
  have hat : ∀ k ∈ L, ([0] ++ sums (shown (rk L) (Rof rowOf) L) 0)[rk L k]? = some (offs (Rof rowOf) L k : Int) ∧ rk L k < 900 := fun k hk => by
    obtain ⟨e1, e2⟩ := take_rk hk
    have := sums_get (q := rk L) (R := Rof rowOf) L 0 (rk L k) (by lia)
    refine ⟨?_, by lia⟩
    show (0 :: sums _ 0)[rk L k]? = _
    rw [this, Int.zero_add, ← e1]; rfl
  generalize hA : [0] ++ sums (shown (rk L) (Rof rowOf) L) 0 = A at h1 hat
  obtain ⟨x2, h2⟩ := loopRl (n := n) (fuel := FU) (q := rk L) (o := offs (Rof rowOf) L) (R := Rof rowOf) (at_ := A) (o0 := some (seenD rowOf L roots)) (o1 := some (.int (sizeW wn : Int))) L [] (sizeW wn) x1 (fun _ h => (nomatch h)) (total_le W l) (by simp [bsize]; lia) (fun k hk => ⟨cells_ok _, fun j hj => hat j (l.ptr hk hj)⟩)
  have hmv : flat (objB (offs (Rof rowOf) L) (Rof rowOf) L ++ freeB (sizeW wn - total (Rof rowOf) L)) = mvM rowOf wn L := by
    rw [flat_append, objB_flat, flat_freeB]; rfl
  rw [List.nil_append, List.nil_append, hmv] at h2
  have hidx1 : dIdx (seenD rowOf L roots) (.int 1) = some (iLL (shown (rk L) (Rof rowOf) L)) := rfl
  have hidx0 : dIdx (seenD rowOf L roots) (.int 0) = some (iL (words (rk L) (cells roots))) := rfl
  have hst : startStore fd_law_relaid [seenD rowOf L roots, .int (sizeW wn : Int)] = [some (seenD rowOf L roots), some (.int (sizeW wn : Int)), none, none, none] := rfl
  rw [hst]
  generalize seenD rowOf L roots = SD at *
  refine step_next (s_assign' (d := iL [0]) (by simp [q_int, q_list, dEs_nil, dEs_cons, iL])) ?_
  refine step_next ((s_forL' (d := iLL (shown (rk L) (Rof rowOf) L)) ?_ (iLL_items (by rw [hsh]; unfold lim; lia))).trans h1) ?_
  · simp only [q_int, q_var, den_idx, Store.get, List.set_cons_succ, List.set_cons_zero, List.getElem?_cons_zero, Option.join_some, Option.bind_some, hidx1]
  refine step_next (s_assign' (d := iL (flat (freeB (sizeW wn)))) ?_) ?_
  · obtain ⟨z, hz⟩ : ∃ z, sizeW wn = z + 1 := ⟨sizeW wn - 1, by lia⟩
    rw [hz]
    simp only [q_int, q_var, q_sub, q_neg, den_cat, q_repl, q_list, dEs_nil, dEs_cons, Store.get, List.getElem?_cons_zero, List.getElem?_cons_succ, Option.join_some, Option.bind_some, o_neg, o_sub, List.length_cons, List.length_nil]
    rw [if_pos (by decide), Option.bind_some, iL_repl (by lia), Option.bind_some, show (((z + 1 : Nat) : Int) - 1).toNat = z by lia, show PyData.list [PyData.int (-((z + 1 : Nat) : Int))] = iL [-((z + 1 : Nat) : Int)] from rfl, iL_cat (by simp; unfold lim; lia), flat_freeB]
    rfl
  refine step_next ((s_forL' (d := iLL (shown (rk L) (Rof rowOf) L)) ?_ (iLL_items (by rw [hsh]; unfold lim; lia))).trans h2) ?_
  · simp only [q_int, q_var, den_idx, Store.get, List.set_cons_succ, List.set_cons_zero, List.getElem?_cons_zero, Option.join_some, Option.bind_some, hidx1]
  refine step_ret (s_ret' ?_)
  have hc2 : denE (callD tab FU (n + 2)) (cmpT (.idx (.var 0) (.int 0))) [some SD, some (.int (sizeW wn : Int)), some (iL A), x2, some (iL (mvM rowOf wn L))] = some (iL (mvR rowOf L roots)) := by
    refine e_comp' (d := iL (words (rk L) (cells roots))) ?_ (iL_items (by rw [words_length, cells_length]; unfold lim; lia)) (compT (Φ := callD tab FU (n + 2)) (cells roots) (cells_ok _) fun k hk => hat k (l.rptr hk))
    simp only [q_int, q_var, den_idx, Store.get, List.getElem?_cons_zero, Option.join_some, Option.bind_some, hidx0]
  have hc3 := hc2
  unfold cmpT eltT at hc3
  rw [den_tuple, dEs_cons, dEs_cons, dEs_nil, hc3]
  simp only [q_var, Store.get, List.getElem?_cons_zero, List.getElem?_cons_succ, Option.join_some, Option.bind_some, List.length_cons, List.length_nil]
  rw [if_pos (by decide)]
  rfl
end
end Mine

namespace Mine
open PySem
set_option autoImplicit false
set_option maxRecDepth 100000
section
variable {Φ : Nat → List PyData → Option PyData} {fuel : Nat}
theorem ways_run {order rows wide roots full live packed D D' SD : PyData} {M H MM MR C : List Int} {used size : Int}
    (hlive : Φ 19 [roots, rows] = some live) (hpack : Φ 20 [live] = some packed)
    (hused : denE Φ (.sum (.comp (Str.ofString "n") [2] false (.var 5) .tt (.idx (.var 1) (.var 0)))) [some order, some rows, some wide, some roots, some full, some live, some packed, none, none, none, none, none, none, none, none] = some (.int used))
    (hsize : dSum wide = some (.int size))
    (hmem : Φ 18 [order, rows, wide, full] = some (iL M)) (hpl : Φ 17 [order, wide] = some D) (hheld : Φ 16 [roots, D] = some (iL H))
    (hshape : Φ 14 [iL M, iL H] = some SD) (hseen : Φ 21 [roots, rows] = some SD) (hcopy : Φ 13 [iL M, iL H] = some (.tuple [iL MM, iL MR]))
    (hheapP : Φ 18 [packed, rows, wide, live] = some (iL MM)) (hplP : Φ 17 [packed, wide] = some D') (hheldP : Φ 16 [roots, D'] = some (iL MR))
    (hrel : Φ 22 [SD, .int size] = some (.tuple [iL MM, iL MR])) (hsweep : Φ 11 [iL M, iL H] = some (iL C)) (hheapC : Φ 18 [order, rows, wide, live] = some (iL C))
    (hcopyC : Φ 13 [iL C, iL H] = some (.tuple [iL MM, iL MR])) (hsweepM : Φ 11 [iL MM, iL MR] = some (iL MM)) (hshapeM : Φ 14 [iL MM, iL MR] = some SD)
    (hlw : Φ 9 [iL M, iL H] = some (.int used)) (hfC : Φ 4 [iL C] = some (.int (size - used))) (hfM : Φ 4 [iL MM] = some (.int (size - used)))
    (hSD : Pure 3 SD) (hMl : M.length ≤ lim) (hHl : H.length ≤ lim) :
    denSs Φ fuel (fd_law_ways.body.take 18) [some order, some rows, some wide, some roots, some full, none, none, none, none, none, none, none, none, none, none] =
      some (.next [some order, some rows, some wide, some roots, some full, some live, some packed, some (.int used), some (.int size), some (iL M), some (iL H), some (.tuple [iL M, iL H]), some SD, some (.tuple [iL MM, iL MR]), some (iL C)]) := by
  have hi0 : dIdx (.tuple [iL MM, iL MR]) (.int 0) = some (iL MM) := rfl
  have hi1 : dIdx (.tuple [iL MM, iL MR]) (.int 1) = some (iL MR) := rfl
  have hpm : Pure 2 (.tuple [iL MM, iL MR]) := pure_pair (pure_iL 0 _) (pure_iL 0 _)
  refine step_next (s_assign' (d := live) (by exact hlive)) ?_
  refine step_next (s_assign' (d := packed) (by exact hpack)) ?_
  refine step_next (s_assign' (d := .int used) hused) ?_
  refine step_next (s_assign' (d := .int size) (by exact hsize)) ?_
  refine step_next (s_assign' (d := iL M) (by exact hmem)) ?_
  refine step_next (s_assign' (d := iL H) (by simp only [q_var, q_call, dEs_nil, dEs_cons, Store.get, List.set_cons_succ, List.set_cons_zero, List.getElem?_cons_zero, List.getElem?_cons_succ, Option.join_some, Option.bind_some, hpl, hheld])) ?_
  refine step_next (s_assign' (d := .tuple [iL M, iL H]) (by simp only [q_var, den_tuple, q_listOf, dEs_nil, dEs_cons, Store.get, List.set_cons_succ, List.set_cons_zero, List.getElem?_cons_zero, List.getElem?_cons_succ, Option.join_some, Option.bind_some, iL_listOf hMl, iL_listOf hHl, List.length_cons, List.length_nil]; rw [if_pos (by decide)])) ?_
  refine step_next (s_assign' (d := SD) (by exact hshape)) ?_
  refine step_next (s_skip (by simp only [q_var, den_cmp, q_call, dEs_nil, dEs_cons, dC_ex, Store.get, List.set_cons_succ, List.set_cons_zero, List.getElem?_cons_zero, List.getElem?_cons_succ, Option.join_some, Option.bind_some, hseen, cmp_ne_same hSD, Option.map_some]; try rfl)) ?_
  refine step_next (s_assign' (d := .tuple [iL MM, iL MR]) (by exact hcopy)) ?_
  refine step_next (s_skip (by simp only [q_var, den_cmp, den_tuple, q_call, dEs_nil, dEs_cons, dC_ex, Store.get, List.set_cons_succ, List.set_cons_zero, List.getElem?_cons_zero, List.getElem?_cons_succ, Option.join_some, Option.bind_some, hheapP, hplP, hheldP, List.length_cons, List.length_nil, Nat.reduceAdd, Nat.reduceLeDiff, if_true, cmp_ne_same hpm, Option.map_some]; try rfl)) ?_
  refine step_next (s_skip (by simp only [q_var, den_cmp, q_call, dEs_nil, dEs_cons, dC_ex, Store.get, List.set_cons_succ, List.set_cons_zero, List.getElem?_cons_zero, List.getElem?_cons_succ, Option.join_some, Option.bind_some, hrel, cmp_ne_same hpm, Option.map_some]; try rfl)) ?_
  refine step_next (s_assign' (d := iL C) (by exact hsweep)) ?_
  refine step_next (s_skip (by simp only [q_var, den_cmp, q_call, dEs_nil, dEs_cons, dC_ex, Store.get, List.set_cons_succ, List.set_cons_zero, List.getElem?_cons_zero, List.getElem?_cons_succ, Option.join_some, Option.bind_some, hheapC, cmp_ne_same (pure_iL 0 C), Option.map_some]; try rfl)) ?_
  refine step_next (s_skip (by simp only [q_var, den_cmp, q_call, dEs_nil, dEs_cons, dC_ex, Store.get, List.set_cons_succ, List.set_cons_zero, List.getElem?_cons_zero, List.getElem?_cons_succ, Option.join_some, Option.bind_some, hcopyC, cmp_ne_same hpm, Option.map_some]; try rfl)) ?_
  refine step_next (s_skip (by simp only [q_int, q_var, den_cmp, den_idx, q_call, dEs_nil, dEs_cons, dC_ex, Store.get, List.set_cons_succ, List.set_cons_zero, List.getElem?_cons_zero, List.getElem?_cons_succ, Option.join_some, Option.bind_some, hi0, hi1, hsweepM, cmp_ne_same (pure_iL 0 MM), Option.map_some]; try rfl)) ?_
  refine step_next (s_skip (by simp only [q_int, q_var, den_cmp, den_idx, q_call, dEs_nil, dEs_cons, dC_ex, Store.get, List.set_cons_succ, List.set_cons_zero, List.getElem?_cons_zero, List.getElem?_cons_succ, Option.join_some, Option.bind_some, hi0, hi1, hshapeM, cmp_ne_same hSD, Option.map_some]; try rfl)) ?_
  refine step_next (s_skip (by simp only [q_int, q_var, q_sub, den_cmp, den_idx, q_call, dEs_nil, dEs_cons, dC_ex, dC_or, Store.get, List.set_cons_succ, List.set_cons_zero, List.getElem?_cons_zero, List.getElem?_cons_succ, Option.join_some, Option.bind_some, hi0, hlw, hfC, hfM, o_sub, cmp_ne_int, decide_true, Bool.not_true, Option.map_some, Bool.false_eq_true, if_false]; try rfl)) ?_
  exact ss_nil'
theorem ways_end {order rows wide roots full live packed SD : PyData} {M H MM MR C : List Int} {used size : Int} :
    denSs Φ fuel (fd_law_ways.body.drop 19) [some order, some rows, some wide, some roots, some full, some live, some packed, some (.int used), some (.int size), some (iL M), some (iL H), some (.tuple [iL M, iL H]), some SD, some (.tuple [iL MM, iL MR]), some (iL C)] = some (.ret (.bool true)) := by
  have hpm : Pure 2 (.tuple [iL M, iL H]) := pure_pair (pure_iL 0 _) (pure_iL 0 _)
  refine step_next (s_skip (by exact via (viam (cmp_ne_same hpm)) rfl; try rfl)) ?_
  exact step_ret (s_ret' (by rfl))
theorem ways_src {order rows wide roots full live packed SD : PyData} {M H MM MR C : List Int} {used size : Int} (h1 : MM.length ≤ 900) (h2 : MR.length ≤ 900) (h3 : C.length ≤ 900) :
    denE Φ src23 [some order, some rows, some wide, some roots, some full, some live, some packed, some (.int used), some (.int size), some (iL M), some (iL H), some (.tuple [iL M, iL H]), some SD, some (.tuple [iL MM, iL MR]), some (iL C)] = some (.list ((MM ++ MR ++ C).map .int)) := by
  have hi0 : dIdx (.tuple [iL MM, iL MR]) (.int 0) = some (iL MM) := rfl
  have hi1 : dIdx (.tuple [iL MM, iL MR]) (.int 1) = some (iL MR) := rfl
  simp only [src23, q_int, q_var, den_cat, den_idx, Store.get, List.set_cons_succ, List.set_cons_zero, List.getElem?_cons_zero, List.getElem?_cons_succ, Option.join_some, Option.bind_some, hi0, hi1]
  rw [iL_cat (by unfold lim; lia), Option.bind_some, iL_cat (by simp; unfold lim; lia)]
  rfl
end
structure Ctx (rows : List (List Int)) (wide : List Int) (rowOf : Nat → List Int) (wn : Nat → Nat) (full : List Nat) : Prop where
  W : Wid rowOf wn full
  hw : ∀ k, k < 6 → wide[k]? = some (wn k : Int)
  wlen : wide.length = 6
  hr : ∀ k ∈ full, rows[k]? = some (rowOf k)
  rlen : rows.length = 5
section
variable {n : Nat} {rows : List (List Int)} {wide : List Int} {rowOf : Nat → List Int} {wn : Nat → Nat} {full order L : List Nat} {roots : List Int}
theorem Ctx.row4 (c : Ctx rows wide rowOf wn full) : ∀ k, k < 4 → rows[k]? = some (rowOf k) ∧ (rowOf k).length ≤ 2 := fun k h => ⟨c.hr k (c.W.four k h), c.W.small k h⟩
theorem Ctx.wide_eq (c : Ctx rows wide rowOf wn full) : wide = (List.range 6).map fun k => (wn k : Int) := by
  refine List.ext_getElem? fun i => ?_
  by_cases h : i < 6
  · rw [c.hw i h, List.getElem?_map, List.getElem?_range h]; rfl
  · rw [List.getElem?_eq_none (by rw [c.wlen]; lia), List.getElem?_eq_none (by simp; lia)]
theorem Ctx.sum (c : Ctx rows wide rowOf wn full) : dSum (iL wide) = some (.int (sizeW wn : Int)) := by
  rw [iL_sum (by rw [c.wlen]; decide), c.wide_eq]
  exact congrArg (fun z => some (PyData.int z)) (isum_nat wn (List.range 6))
theorem compU (c : Ctx rows wide rowOf wn full) {Φ : Nat → List PyData → Option PyData} : ∀ (ks : List Nat), (∀ k ∈ ks, k < 6) → compD (fun _ => some true) (fun d => denE Φ (.idx (.var 1) (.var 0)) [some d, some (iL wide)]) ((nL ks).map .int) = some ((ks.map fun k => (wn k : Int)).map .int)
  | [], _ => rfl
  | k :: ks, h => by
    have ih := compU c (Φ := Φ) ks fun j hj => h j (.tail _ hj)
    have hk := h k (.head _)
    show compD _ _ (PyData.int (k : Int) :: (nL ks).map .int) = _
    rw [compD]
    have hc : denE Φ (.idx (.var 1) (.var 0)) [some (.int (k : Int)), some (iL wide)] = some (.int (wn k : Int)) := by
      exact (iL_idx (c.hw k hk) (by lia))
    simp only [PyData.canLay0, if_true, hc, ih]
    rfl
theorem pure_seen (rowOf : Nat → List Int) (L : List Nat) (roots : List Int) : Pure 3 (seenD rowOf L roots) := pure_pair (pure_iL 1 _) (pure_iLL 0 _)
theorem ways_pure (c : Ctx rows wide rowOf wn full) (O : Ord order) (l : Liv rowOf roots L) (hr : roots.length ≤ 3) :
    ∃ σ₁ ds, denSs (callD tab FU (n + 3)) FU (fd_law_ways.body.take 18) (startStore fd_law_ways [iL (nL order), iLL rows, iL wide, iL roots, iL (nL full)]) = some (.next σ₁) ∧
      denE (callD tab FU (n + 3)) src23 σ₁ = some (.list ds) ∧ ds.all isIntD = true ∧ denSs (callD tab FU (n + 3)) FU (fd_law_ways.body.drop 19) σ₁ = some (.ret (.bool true)) := by
  have W := c.W
  have hLf := l.inF W
  have hid : ∀ k ∈ full, k ∈ full := fun _ h => h
  have hidL : ∀ k ∈ L, k ∈ L := fun _ h => h
  have hPk : hp rowOf wn L (packN L) = mvM rowOf wn L := hp_packed W l
  have hPr : words (pos wn (packN L) 0) (cells roots) = mvR rowOf L roots := held_packed W l
  have hlive := c_live (n := n + 2) c.row4 hr
  rw [← l.eq] at hlive
  have hseen := c_seen (n := n + 1) c.row4 hr
  rw [← l.eq] at hseen
  have hheapP := c_hp (n := n + 1) (rows := rows) (wide := wide) (kept := L) W l.ord hLf c.hw c.hr
  have hheldP := c_held (n := n + 2) (row := roots) l.ord c.hw (by lia)
  have hsweepM := cp_sweep (n := n) W l.ord l hr hLf hidL
  have hshapeM := cp_shape (n := n) W l.ord l hr hLf hidL
  have hfM := cp_free (n := n + 1) W l.ord l
  rw [hPk] at hheapP hsweepM hshapeM hfM
  rw [hPr] at hheldP hsweepM hshapeM
  have hMM : (mvM rowOf wn L).length ≤ 900 := by rw [← hPk, hp_len W l.ord hLf]; have := size_le W; lia
  have hMR : (mvR rowOf L roots).length ≤ 900 := by unfold mvR; rw [words_length, cells_length]; lia
  have hC : (hp rowOf wn L order).length ≤ 900 := by rw [hp_len W O hLf]; have := size_le W; lia
  refine ⟨_, _, ways_run (fuel := FU) (used := (wsum wn L : Int)) (size := (sizeW wn : Int)) hlive (c_packed (n := n + 2) (by have := l.len; lia)) ?_ c.sum
    (c_hp (n := n + 1) W O hid c.hw c.hr) (c_pl (n := n + 2) O c.hw) (c_held (n := n + 2) (row := roots) O c.hw (by lia))
    (cp_shape (n := n) W O l hr hid hLf) hseen (cp_copy (n := n) W O l hr hid hLf) hheapP (c_pl (n := n + 2) l.ord c.hw) hheldP (c_relaid (n := n) W l hr)
    (cp_sweep (n := n) W O l hr hid hLf) (c_hp (n := n + 1) W O hLf c.hw c.hr) (cp_copy (n := n) W O l hr hLf hidL) hsweepM hshapeM (cp_live (n := n) W O l hr hid hLf) (cp_free (n := n + 1) W O l) hfM (pure_seen rowOf L roots) ?_ ?_, ways_src hMM hMR hC, ?_, ways_end⟩
  · have hcu := compU c (Φ := callD tab FU (n + 3)) L l.lt6
    have hcomp := e_comp' (Φ := callD tab FU (n + 3)) (σ := [some (iL (nL order)), some (iLL rows), some (iL wide), some (iL roots), some (iL (nL full)), some (iL (nL L)), some (iL (nL (packN L))), none, none, none, none, none, none, none, none]) (z := Str.ofString "n") (caps := [2]) (rng := false) (src := .var 5) (cond := .tt) (elt := .idx (.var 1) (.var 0)) (d := iL (nL L)) (by rfl) (iL_items (by simp [nL]; have := l.len; unfold lim; lia)) hcu
    rw [den_sum, hcomp, Option.bind_some, show PyData.list ((L.map fun k => (wn k : Int)).map .int) = iL (L.map fun k => (wn k : Int)) from rfl, iL_sum (by simp; have := l.len; unfold lim; lia)]
    exact congrArg (fun z => some (PyData.int z)) (isum_nat wn L)
  · rw [hp_len W O hid]; have := size_le W; unfold lim; lia
  · rw [words_length, cells_length]; unfold lim; lia
  · rw [List.all_map]; simp [o_ii]
end
end Mine

namespace Mine
open PySem
set_option autoImplicit false
set_option maxRecDepth 100000
section
variable {n : Nat} {Φ : Nat → List PyData → Option PyData} {fuel : Nat}
theorem ne_bool (b : Bool) : dCmp .ne (.bool b) (.bool b) = some false := by cases b <;> rfl
theorem told_run {order other rows turned wide roots full D2 SDt SDr MDt MDr : PyData} {D : List (PyData × PyData)} {H M F T H2 : List Int} {x i c px wv : Int}
    (hpl : Φ 17 [order, wide] = some (.dict D)) (hx : dIdx (.dict D) (.int x) = some (.int px)) (hheld : Φ 16 [roots, .dict D] = some (iL H)) (hmem : Φ 18 [order, rows, wide, full] = some (iL M))
    (hone : Φ 16 [iL [c], .dict D] = some (iL [wv])) (hwf : Φ 7 [iL M, .int px, .int i, .int wv] = some (iL F)) (hmemT : Φ 18 [order, turned, wide, full] = some (iL F))
    (htwin : Φ 18 [other, rows, wide, full] = some (iL T)) (hplO : Φ 17 [other, wide] = some D2) (hheldO : Φ 16 [roots, D2] = some (iL H2))
    (hs1 : Φ 21 [roots, turned] = some SDt) (hs2 : Φ 21 [roots, rows] = some SDr) (hsh1 : Φ 14 [iL F, iL H] = some SDt) (hsh2 : Φ 14 [iL T, iL H2] = some SDr)
    (hc1 : Φ 13 [iL F, iL H] = some MDt) (hc2 : Φ 13 [iL T, iL H2] = some MDr) (hSt : Pure 3 SDt) (hSr : Pure 3 SDr) (hMt : Pure 3 MDt) (hMr : Pure 3 MDr)
    (heqv : PyData.eqv MDt MDr = PyData.eqv SDt SDr) (hMl : M.length ≤ lim) :
    denSs Φ fuel fd_law_told.body [some order, some other, some rows, some turned, some wide, some roots, some full, some (.tuple [.int x, .int i, .int c]), none, none, none, none, none, none, none, none] = some (.ret (.bool true)) := by
  have hi0 : dIdx (.tuple [.int x, .int i, .int c]) (.int 0) = some (.int x) := rfl
  have hi1 : dIdx (.tuple [.int x, .int i, .int c]) (.int 1) = some (.int i) := rfl
  have hi2 : dIdx (.tuple [.int x, .int i, .int c]) (.int 2) = some (.int c) := rfl
  have hw0 : dIdx (iL [wv]) (.int 0) = some (.int wv) := rfl
  have hl1 : PyData.list [.int c] = iL [c] := rfl
  have hse := cmp_eq hSt hSr
  have hme := cmp_eq hMt hMr
  rw [heqv] at hme
  refine step_next (s_assign' (d := .dict D) (by exact hpl)) ?_
  refine step_next (s_assign' (d := iL H) (by exact hheld)) ?_
  refine step_next (s_assign' (d := iL M) (by exact hmem)) ?_
  refine step_next (s_assign' (d := iL M) (by exact (iL_listOf hMl))) ?_
  refine step_next (s_assign' (d := iL F) (by simp only [q_int, q_var, den_idx, q_list, q_call, dEs_nil, dEs_cons, Store.get, List.set_cons_succ, List.set_cons_zero, List.getElem?_cons_zero, List.getElem?_cons_succ, Option.join_some, Option.bind_some, hi0, hi1, hi2, hx, List.length_cons, List.length_nil, Nat.reduceAdd, Nat.reduceLeDiff, if_true, Nat.zero_le, hl1, hone, hw0, hwf])) ?_
  refine step_next (s_skip (by simp only [q_var, den_cmp, q_call, dEs_nil, dEs_cons, dC_ex, dC_or, Store.get, List.set_cons_succ, List.set_cons_zero, List.getElem?_cons_zero, List.getElem?_cons_succ, Option.join_some, Option.bind_some, hmemT, cmp_ne_same (pure_iL 0 F), cmp_ne_same (pure_iL 0 M), Option.map_some, Bool.false_eq_true, if_false]; try rfl)) ?_
  refine step_next (s_assign' (d := iL T) (by exact htwin)) ?_
  refine step_next (s_assign' (d := iL H2) (by simp only [q_var, q_call, dEs_nil, dEs_cons, Store.get, List.set_cons_succ, List.set_cons_zero, List.getElem?_cons_zero, List.getElem?_cons_succ, Option.join_some, Option.bind_some, hplO, hheldO])) ?_
  refine step_next (s_assign' (d := .bool (PyData.eqv SDt SDr)) (by simp only [q_var, den_cmp, q_call, dEs_nil, dEs_cons, Store.get, List.set_cons_succ, List.set_cons_zero, List.getElem?_cons_zero, List.getElem?_cons_succ, Option.join_some, Option.bind_some, hs1, hs2, hse, Option.map_some])) ?_
  refine step_next (s_skip (by simp only [q_var, den_cmp, q_call, dEs_nil, dEs_cons, dC_ex, Store.get, List.set_cons_succ, List.set_cons_zero, List.getElem?_cons_zero, List.getElem?_cons_succ, Option.join_some, Option.bind_some, hsh1, hsh2, hse, Option.map_some, ne_bool]; try rfl)) ?_
  refine step_next (s_skip (by simp only [q_var, den_cmp, q_call, dEs_nil, dEs_cons, dC_ex, Store.get, List.set_cons_succ, List.set_cons_zero, List.getElem?_cons_zero, List.getElem?_cons_succ, Option.join_some, Option.bind_some, hc1, hc2, hme, Option.map_some, ne_bool]; try rfl)) ?_
  exact step_ret (s_ret' (by rfl))
theorem c_with {M : List Int} {a i : Nat} {w : Int} (h : a + 1 + i < M.length) (hl : M.length ≤ 900) : callD tab FU (n + 1) 7 [iL M, .int (a : Int), .int (i : Int), .int w] = some (iL (M.set (a + 1 + i) w)) := by
  refine call_run (fd := fd_with_field) rfl rfl rfl rfl ?_
  rw [show startStore fd_with_field [iL M, .int (a : Int), .int (i : Int), .int w] = [some (iL M), some (.int (a : Int)), some (.int (i : Int)), some (.int w), none] from rfl]
  have hs := iL_set (v := w) h (show M.length ≤ lim by unfold lim; lia)
  refine step_next (s_assign' (d := iL M) (by simp only [q_var, q_listOf, Store.get, List.getElem?_cons_zero, Option.join_some, Option.bind_some, iL_listOf (show M.length ≤ lim by unfold lim; lia)])) ?_
  refine step_next (s_store' (l := iL M) (k := .int ((a + 1 + i : Nat) : Int)) (d := .int w) (by simp [q_var, Store.get]) (by simp [Store.get]) ?_ hs) ?_
  · simp only [q_int, q_var, q_add, Store.get, List.set_cons_succ, List.set_cons_zero, List.getElem?_cons_zero, List.getElem?_cons_succ, Option.join_some, Option.bind_some, o_add]
    rfl
  exact step_ret (s_ret' (by simp [q_var, Store.get]))
theorem heapB_congr {kept : List Nat} {ws ws' : Nat → List Int} {wn : Nat → Nat} : ∀ (ks : List Nat) (g : Nat), (∀ k ∈ ks, ws' k = ws k) → heapB kept ws' wn ks g = heapB kept ws wn ks g
  | [], g, _ => rfl
  | k :: ks, g, h => by
    rw [heapB, heapB, heapB_congr ks 0 fun j hj => h j (.tail _ hj), heapB_congr ks _ fun j hj => h j (.tail _ hj), h k (.head _)]
theorem heapB_turn {kept : List Nat} {ws : Nat → List Int} {wn : Nat → Nat} {x : Nat} {post : List Nat} (hx : x ∈ kept) (hpost : x ∉ post) : ∀ (pre : List Nat) (g : Nat), x ∉ pre → (∀ i ∈ pre, i ∈ kept → (ws i).length + 1 = wn i) →
    ∃ A B, bsize A = g + wsum wn pre ∧ ∀ ws' : Nat → List Int, (∀ k, k ≠ x → ws' k = ws k) → heapB kept ws' wn (pre ++ x :: post) g = A ++ .obj (ws' x) :: B
  | [], g, _, _ => ⟨freeB g, heapB kept ws wn post 0, by simp [bsize_freeB, wsum], fun ws' h => by
      rw [List.nil_append, heapB, if_pos hx, heapB_congr post 0 fun k hk => h k fun e => hpost (e ▸ hk)]⟩
  | j :: pre, g, hn, hf => by
    have hj : j ≠ x := fun e => hn (e ▸ .head _)
    by_cases hk : j ∈ kept
    · obtain ⟨A, B, e1, e2⟩ := heapB_turn hx hpost pre 0 (fun q => hn (.tail _ q)) (fun i hi => hf i (.tail _ hi))
      refine ⟨freeB g ++ (.obj (ws j) :: A), B, ?_, fun ws' h => ?_⟩
      · rw [bsize_append, bsize_freeB, show bsize (Blk.obj (ws j) :: A) = ((ws j).length + 1) + bsize A by simp [bsize, Blk.size], e1, hf j (.head _) hk, wsum_cons]; lia
      · rw [List.cons_append, heapB, if_pos hk, e2 ws' h, h j hj]; simp
    · obtain ⟨A, B, e1, e2⟩ := heapB_turn hx hpost pre (g + wn j) (fun q => hn (.tail _ q)) (fun i hi => hf i (.tail _ hi))
      refine ⟨A, B, by rw [e1, wsum_cons]; lia, fun ws' h => by rw [List.cons_append, heapB, if_neg hk, e2 ws' h]⟩
theorem flat_set {A B : List Blk} {w : List Int} {i : Nat} {v : Int} (hi : i < w.length) : flat (A ++ .obj (w.set i v) :: B) = (flat (A ++ .obj w :: B)).set (bsize A + 1 + i) v := by
  have e : ∀ u : List Int, flat (A ++ .obj u :: B) = flat A ++ ((u.length : Int) :: (u ++ flat B)) := fun u => by simp [flat, Blk.ints]
  rw [e, e, List.set_append_right _ _ (by rw [flat_length]; lia), flat_length, show bsize A + 1 + i - bsize A = i + 1 by lia, List.set_cons_succ, List.set_append_left _ _ hi, List.length_set]
end
section
variable {n : Nat} {rows : List (List Int)} {wide : List Int} {rowOf : Nat → List Int} {wn : Nat → Nat} {full order other L : List Nat} {roots : List Int}
noncomputable def turnF (rowOf : Nat → List Int) (x i : Nat) (c : Int) (k : Nat) : List Int := if k = x then (rowOf x).set i c else rowOf k
theorem turn_len (rowOf : Nat → List Int) (x i : Nat) (c : Int) (k : Nat) : (turnF rowOf x i c k).length = (rowOf k).length := by
  unfold turnF; split
  · rename_i h; rw [h, List.length_set]
  · rfl
theorem Wid.turn (W : Wid rowOf wn full) (x i : Nat) (c : Int) : Wid (turnF rowOf x i c) wn full :=
  ⟨fun k h => by rw [turn_len]; exact W.small k h, fun k h => by rw [turn_len]; exact W.fit k h, W.four, W.five, W.none4, W.wb, W.nodup⟩
theorem Ctx.turn (c : Ctx rows wide rowOf wn full) {x : Nat} (hx : x < 4) (i : Nat) (v : Int) : Ctx (rows.set x ((rowOf x).set i v)) wide (turnF rowOf x i v) wn full where
  W := c.W.turn x i v
  hw := c.hw
  wlen := c.wlen
  hr := fun k hk => by
    unfold turnF
    by_cases h : k = x
    · subst h; rw [if_pos rfl, List.getElem?_set_self (by rw [c.rlen]; lia)]
    · rw [if_neg h, List.getElem?_set_ne (fun e => h e.symm)]; exact c.hr k hk
  rlen := by rw [List.length_set]; exact c.rlen
theorem hp_turn (W : Wid rowOf wn full) (O : Ord order) {x i : Nat} (hx : x < 4) (hi : i < (rowOf x).length) (v : Int) :
    hp (turnF rowOf x i v) wn full order = (hp rowOf wn full order).set (pos wn order 0 x + 1 + i) ((cellOf v).word (pos wn order 0)) := by
  obtain ⟨pre, post, e⟩ := List.append_of_mem ((O.mem x).mpr (by lia))
  have hnd := O.nodup
  rw [e, List.nodup_append, List.nodup_cons] at hnd
  have hn : x ∉ pre := fun q => hnd.2.2 x q x (.head _) rfl
  obtain ⟨A, B, e1, e2⟩ := heapB_turn (ws := wsOf rowOf wn order) (wn := wn) (kept := full) (post := post) (W.four x hx) hnd.2.1.1 pre 0 hn (fun i _ hi => by rw [wsOf_len]; exact W.fit i hi)
  rw [← e] at e2
  have hp0 : pos wn order 0 x = bsize A := by rw [e1, e, pos_at pre 0 hn]
  have hT := e2 (wsOf (turnF rowOf x i v) wn order) fun k hk => by unfold wsOf turnF; rw [if_neg hk]
  have hR := e2 (wsOf rowOf wn order) fun _ _ => rfl
  unfold hp hpB
  rw [hT, hR, hp0, ← flat_set (by rw [wsOf_len]; exact hi)]
  congr 3
  unfold wsOf turnF
  rw [if_pos rfl]
  simp only [words, cells, List.map_set]
theorem c_told (c : Ctx rows wide rowOf wn full) (O : Ord order) (O2 : Ord other) (hr : roots.length ≤ 3) {x i : Nat} (hx : x < 4) (hi : i < (rowOf x).length) (v : Int) :
    callD tab FU (n + 4) 25 [iL (nL order), iL (nL other), iLL rows, iLL (rows.set x ((rowOf x).set i v)), iL wide, iL roots, iL (nL full), .tuple [.int (x : Int), .int (i : Int), .int v]] = some (.bool true) := by
  have W := c.W
  have cT := c.turn hx i v
  have WT := cT.W
  have l := liv rowOf roots
  have lT := liv (turnF rowOf x i v) roots
  generalize hLe : liveN (Rof rowOf) (cells roots) = L at l
  generalize hLt : liveN (Rof (turnF rowOf x i v)) (cells roots) = LT at lT
  have hid : ∀ k ∈ full, k ∈ full := fun _ h => h
  have hidL : ∀ k ∈ L, k ∈ L := fun _ h => h
  have hidT : ∀ k ∈ LT, k ∈ LT := fun _ h => h
  have hs2 := c_seen (n := n + 1) c.row4 hr
  rw [hLe] at hs2
  have hs1 := c_seen (n := n + 1) cT.row4 hr
  rw [hLt] at hs1
  have hMl : (hp rowOf wn full order).length ≤ 18 := by rw [hp_len W O hid]; exact size_le W
  have hfit : pos wn order 0 x + 1 + i < (hp rowOf wn full order).length := by
    obtain ⟨pre, post, e⟩ := List.append_of_mem ((O.mem x).mpr (by lia))
    have hnd := O.nodup
    have hsz : sizeW wn = wsum wn order := wsum_perm (ord_range.perm O)
    rw [hp_len W O hid, hsz]
    rw [e, List.nodup_append] at hnd
    rw [e, pos_at pre 0 (fun q => hnd.2.2 x q x (.head _) rfl), wsum_append, wsum_cons]
    have := W.fit x (W.four x hx)
    lia
  have hwf := c_with (n := n + 2) (w := (cellOf v).word (pos wn order 0)) hfit (by lia)
  rw [← hp_turn W O hx hi v] at hwf
  have hmd : PyData.eqv (movedD (turnF rowOf x i v) wn LT roots) (movedD rowOf wn L roots) = PyData.eqv (seenD (turnF rowOf x i v) LT roots) (seenD rowOf L roots) := by
    have p1 : Pure 2 (movedD (turnF rowOf x i v) wn LT roots) := pure_pair (pure_iL 0 _) (pure_iL 0 _)
    have p2 : Pure 2 (movedD rowOf wn L roots) := pure_pair (pure_iL 0 _) (pure_iL 0 _)
    rw [Bool.eq_iff_iff, eqv_iff p1 p2, eqv_iff (pure_seen _ _ _) (pure_seen _ _ _)]
    constructor
    · intro h
      have h1 := cp_shape (n := 0) W l.ord l hr (l.inF W) hidL
      have h2 := cp_shape (n := 0) WT lT.ord lT hr (lT.inF WT) hidT
      rw [hp_packed W l, held_packed W l] at h1
      rw [hp_packed WT lT, held_packed WT lT] at h2
      unfold movedD at h
      injection h with h
      injection h with ha h
      injection h with hb h
      rw [ha, hb, h1] at h2
      exact (Option.some.inj h2).symm
    · intro h
      have h1 := c_relaid (n := 0) W l hr
      have h2 := c_relaid (n := 0) WT lT hr
      rw [h, h1] at h2
      exact (Option.some.inj h2).symm
  refine call_run (fd := fd_law_told) rfl rfl rfl rfl ?_
  refine told_run (c_pl (n := n + 2) O c.hw) (px := (pos wn order 0 x : Int)) ?_ (c_held (n := n + 2) (row := roots) O c.hw (by lia)) (c_hp (n := n + 1) W O hid c.hw c.hr)
    (c_held (n := n + 2) (row := [v]) O c.hw (by simp)) hwf (c_hp (n := n + 1) WT O hid cT.hw cT.hr) (c_hp (n := n + 1) W O2 hid c.hw c.hr) (c_pl (n := n + 2) O2 c.hw) (c_held (n := n + 2) (row := roots) O2 c.hw (by lia))
    hs1 hs2 (cp_shape (n := n) WT O lT hr hid (lT.inF WT)) (cp_shape (n := n) W O2 l hr hid (l.inF W)) (cp_copy (n := n) WT O lT hr hid (lT.inF WT)) (cp_copy (n := n) W O2 l hr hid (l.inF W))
    (pure_seen _ _ _) (pure_seen _ _ _) (pure_pair (pure_iL 1 _) (pure_iL 1 _)) (pure_pair (pure_iL 1 _) (pure_iL 1 _)) hmd (by unfold lim; lia)
  have := wide_pos c.hw O (show x < 6 by lia)
  exact viam this
end
end Mine

namespace Mine
open PySem
set_option autoImplicit false
set_option maxRecDepth 100000
theorem fit_or (need : Nat) : ∀ (bs : List Blk), (∀ b ∈ bs, tight need b) ∨ ∃ pre g post, bs = pre ++ .free g :: post ∧ (∀ b ∈ pre, tight need b) ∧ need ≤ g + 1
  | [] => .inl fun _ h => nomatch h
  | b :: bs => by
    by_cases hb : tight need b
    · rcases fit_or need bs with h | ⟨pre, g, post, e, h1, h2⟩
      · exact .inl fun c hc => by
          rcases List.mem_cons.mp hc with rfl | hc
          · exact hb
          · exact h c hc
      · exact .inr ⟨b :: pre, g, post, by rw [e]; rfl, fun c hc => by
          rcases List.mem_cons.mp hc with rfl | hc
          · exact hb
          · exact h1 c hc, h2⟩
    · cases b with
      | obj ws => exact absurd (.inl rfl) hb
      | free g =>
        have h2 : need ≤ g + 1 := by
          unfold tight at hb
          simp only [Blk.size] at hb
          lia
        exact .inr ⟨[], g, bs, rfl, fun _ h => (nomatch h), h2⟩
noncomputable def fits (need : Nat) (b : Blk) : Bool := b.isFree && decide (need ≤ b.size)
noncomputable def spotsB (need : Nat) : List Blk → Nat → List Nat
  | [], _ => []
  | b :: bs, off => (if fits need b then [off] else []) ++ spotsB need bs (off + b.size)
theorem fits_tight {need : Nat} {b : Blk} (h : tight need b) : fits need b = false := by
  unfold fits
  rcases h with h | h
  · rw [h]; rfl
  · rw [decide_eq_false (by lia), Bool.and_false]
theorem spots_tight {need : Nat} : ∀ (bs : List Blk) (off : Nat), (∀ b ∈ bs, tight need b) → spotsB need bs off = []
  | [], _, _ => rfl
  | b :: bs, off, h => by rw [spotsB, fits_tight (h b (.head _)), spots_tight bs _ fun c hc => h c (.tail _ hc)]; rfl
theorem spots_fit {need g : Nat} {post : List Blk} (hg : need ≤ g + 1) : ∀ (pre : List Blk) (off : Nat), (∀ b ∈ pre, tight need b) → ∃ r, spotsB need (pre ++ .free g :: post) off = (off + bsize pre) :: r
  | [], off, _ => ⟨spotsB need post (off + (Blk.free g).size), by
      rw [List.nil_append, spotsB]
      have : fits need (.free g) = true := by simp [fits, Blk.isFree, Blk.size, hg]
      rw [this]; simp [bsize]⟩
  | b :: pre, off, h => by
    obtain ⟨r, e⟩ := spots_fit (post := post) hg pre (off + b.size) fun c hc => h c (.tail _ hc)
    refine ⟨r, ?_⟩
    rw [List.cons_append, spotsB, fits_tight (h b (.head _)), e]
    simp [bsize]; lia
section
variable {Φ : Nat → List PyData → Option PyData}
theorem compD_app {t : PyData → Option Bool} {g : PyData → Option PyData} {b : List PyData} {ys : List PyData} (hb : compD t g ys = some b) : ∀ (xs : List PyData) (a : List PyData), compD t g xs = some a → compD t g (xs ++ ys) = some (a ++ b)
  | [], a, h => by
    simp only [compD, Option.some.injEq] at h
    subst h; exact hb
  | d :: ds, a, h => by
    rw [List.cons_append]
    rw [compD] at h ⊢
    split at h
    · rename_i hc
      rw [if_pos hc]
      split at h
      · rename_i ht
        split at h
        · rename_i k hg
          split at h
          · rename_i r hr
            have := compD_app hb ds r hr
            simp only [hg, this]
            cases h; rfl
          · cases h
        · cases h
      · exact compD_app hb ds a h
      · cases h
    · cases h
noncomputable def condSp : PC := .ex (.cmp .le (.idx (.var 1) (.var 0)) (.neg (.var 2)))
theorem condSp_eq {mem : List Int} {need i : Nat} {v : Int} (h : mem[i]? = some v) (hi : i < 900) : denC Φ condSp [some (.int (i : Int)), some (iL mem), some (.int (need : Int))] = some (decide (v ≤ -(need : Int))) := by
  simp only [condSp, dC_ex, q_var, q_neg, den_cmp, den_idx, Store.get, List.getElem?_cons_zero, List.getElem?_cons_succ, Option.join_some, Option.bind_some, iL_idx h (by lia), o_neg, o_le, Option.map_some]
noncomputable def spC (Φ : Nat → List PyData → Option PyData) (mem : List Int) (need : Nat) (xs : List PyData) : Option (List PyData) :=
  compD (fun d => denC Φ condSp [some d, some (iL mem), some (.int (need : Int))]) (fun d => denE Φ (.var 0) [some d, some (iL mem), some (.int (need : Int))]) xs
theorem spC_none {mem : List Int} {need : Nat} (hml : mem.length ≤ 900) : ∀ (t j : Nat), (∀ i, j ≤ i → i < j + t → ∃ v, mem[i]? = some v ∧ ¬ v ≤ -(need : Int)) → spC Φ mem need (items j t) = some []
  | 0, _, _ => rfl
  | t + 1, j, h => by
    have ih := spC_none (need := need) hml t (j + 1) fun i h1 h2 => h i (by lia) (by lia)
    obtain ⟨v, hv, hn⟩ := h j (by lia) (by lia)
    have hj : j < mem.length := (List.getElem?_eq_some_iff.mp hv).1
    rw [items_succ]
    unfold spC at ih ⊢
    rw [compD]
    simp only [PyData.canLay0, if_true, condSp_eq hv (show j < 900 by lia), decide_eq_false hn]
    exact ih
theorem spC_block {mem pre post : List Int} {need : Nat} {b : Blk} (hm : mem = pre ++ b.ints ++ post) (hml : mem.length ≤ 900) (h1 : 1 ≤ need) (hpos : ∀ ws, b = .obj ws → ∀ w ∈ ws, 0 ≤ w) :
    spC Φ mem need (items pre.length b.size) = some ((nL (if fits need b then [pre.length] else [])).map .int) := by
  have hget : ∀ i, i < b.size → mem[pre.length + i]? = b.ints[i]? := fun i hi => by
    rw [hm, List.append_assoc, List.getElem?_append_right (by lia), show pre.length + i - pre.length = i by lia, List.getElem?_append_left (by rw [ints_length]; exact hi)]
  cases b with
  | obj ws =>
    have hf : fits need (.obj ws) = false := rfl
    rw [hf]
    refine spC_none hml _ _ fun i h2 h3 => ?_
    have := hget (i - pre.length) (by lia)
    rw [show pre.length + (i - pre.length) = i by lia] at this
    have hl : i - pre.length < (Blk.obj ws).ints.length := by rw [ints_length]; lia
    refine ⟨(Blk.obj ws).ints[i - pre.length], by rw [this, List.getElem?_eq_getElem hl], ?_⟩
    have hmem : (Blk.obj ws).ints[i - pre.length] ∈ (Blk.obj ws).ints := List.getElem_mem hl
    generalize (Blk.obj ws).ints[i - pre.length] = v at hmem
    rcases List.mem_cons.mp hmem with rfl | hmem
    · lia
    · have := hpos ws rfl v hmem; lia
  | free g =>
    have hsz : (Blk.free g).size = g + 1 := rfl
    have hz : spC Φ mem need (items (pre.length + 1) g) = some [] := spC_none hml _ _ fun i h2 h3 => by
      have := hget (i - pre.length) (by lia)
      rw [show pre.length + (i - pre.length) = i by lia] at this
      refine ⟨0, ?_, by lia⟩
      rw [this]
      obtain ⟨j, hj⟩ : ∃ j, i - pre.length = j + 1 := ⟨i - pre.length - 1, by lia⟩
      rw [hj, show (Blk.free g).ints = -((g + 1 : Nat) : Int) :: zeros g from rfl, List.getElem?_cons_succ, zeros, List.getElem?_replicate, if_pos (by lia)]
    have h0 := hget 0 (by lia)
    rw [show (Blk.free g).ints = -((g + 1 : Nat) : Int) :: zeros g from rfl, List.getElem?_cons_zero, Nat.add_zero] at h0
    have hpl : pre.length < mem.length := (List.getElem?_eq_some_iff.mp h0).1
    rw [hsz, items_succ]
    unfold spC at hz ⊢
    rw [compD]
    simp only [PyData.canLay0, if_true, condSp_eq h0 (show pre.length < 900 by lia)]
    by_cases hn : need ≤ g + 1
    · have hf : fits need (.free g) = true := by simp [fits, Blk.isFree, Blk.size, hn]
      rw [hf, decide_eq_true (by lia)]
      simp only [q_var, Store.get, List.getElem?_cons_zero, Option.join_some]
      simp only [q_var, Store.get, List.getElem?_cons_zero, Option.join_some] at hz
      rw [hz]
      rfl
    · have hf : fits need (.free g) = false := by unfold fits; rw [decide_eq_false (by simp only [Blk.size]; lia), Bool.and_false]
      rw [hf, decide_eq_false (by lia)]
      exact hz
theorem spC_flat {mem : List Int} {need : Nat} (hml : mem.length ≤ 900) (h1 : 1 ≤ need) : ∀ (bs : List Blk) (pre : List Int), mem = pre ++ flat bs → (∀ ws, Blk.obj ws ∈ bs → ∀ w ∈ ws, 0 ≤ w) → spC Φ mem need (items pre.length (bsize bs)) = some ((nL (spotsB need bs pre.length)).map .int)
  | [], pre, _, _ => rfl
  | b :: bs, pre, hm, hpos => by
    have hfb : flat (b :: bs) = b.ints ++ flat bs := by simp [flat]
    rw [hfb] at hm
    have hb : bsize (b :: bs) = b.size + bsize bs := by simp [bsize]
    have e1 := spC_block (Φ := Φ) (need := need) (mem := mem) (pre := pre) (post := flat bs) (b := b) (by rw [hm, List.append_assoc]) hml h1 (fun ws e => hpos ws (e ▸ .head _))
    have e2 := spC_flat hml h1 bs (pre ++ b.ints) (by rw [hm, List.append_assoc]) (fun ws h => hpos ws (.tail _ h))
    rw [List.length_append, ints_length] at e2
    rw [hb, items_add, spotsB]
    have := compD_app e2 _ _ e1
    unfold spC
    rw [this]
    simp [nL]
end
theorem free_le {bs : List Blk} {b : Blk} (hb : b ∈ bs) (hf : b.isFree = true) : b.size ≤ freeSum bs := by
  induction bs with
  | nil => cases hb
  | cons c bs ih =>
    have e : freeSum (c :: bs) = (if c.isFree then c.size else 0) + freeSum bs := by simp [freeSum]
    rw [e]
    rcases List.mem_cons.mp hb with rfl | hb
    · rw [if_pos hf]; lia
    · have := ih hb; lia
theorem gap_free {kept : List Nat} {ws : Nat → List Int} {wn : Nat → Nat} : ∀ (ks : List Nat) (g : Nat), 1 ≤ g → ∃ b ∈ heapB kept ws wn ks g, b.isFree = true ∧ g ≤ b.size
  | [], g, h => by
    obtain ⟨z, rfl⟩ : ∃ z, g = z + 1 := ⟨g - 1, by lia⟩
    exact ⟨.free z, .head _, rfl, Nat.le_refl _⟩
  | k :: ks, g, h => by
    rw [heapB]
    by_cases hk : k ∈ kept
    · rw [if_pos hk]
      obtain ⟨z, rfl⟩ : ∃ z, g = z + 1 := ⟨g - 1, by lia⟩
      exact ⟨.free z, .head _, rfl, Nat.le_refl _⟩
    · rw [if_neg hk]
      obtain ⟨b, h1, h2, h3⟩ := gap_free (kept := kept) (ws := ws) (wn := wn) ks (g + wn k) (by lia)
      exact ⟨b, h1, h2, by lia⟩
theorem name_free {kept : List Nat} {ws : Nat → List Int} {wn : Nat → Nat} {j : Nat} (hj : j ∉ kept) (hw : 1 ≤ wn j) : ∀ (ks : List Nat) (g : Nat), j ∈ ks → ∃ b ∈ heapB kept ws wn ks g, b.isFree = true ∧ wn j ≤ b.size
  | k :: ks, g, h => by
    rw [heapB]
    by_cases hk : k ∈ kept
    · rw [if_pos hk]
      obtain ⟨b, h1, h2, h3⟩ := name_free hj hw ks 0 ((List.mem_cons.mp h).resolve_left fun e => hj (e ▸ hk))
      exact ⟨b, List.mem_append_right _ (.tail _ h1), h2, h3⟩
    · rw [if_neg hk]
      rcases List.mem_cons.mp h with rfl | h
      · obtain ⟨b, h1, h2, h3⟩ := gap_free (kept := kept) (ws := ws) (wn := wn) ks (g + wn j) (by lia)
        exact ⟨b, h1, h2, by lia⟩
      · exact name_free hj hw ks _ h
section
variable {rowOf : Nat → List Int} {wn : Nat → Nat} {full kept order L : List Nat} {roots : List Int}
theorem full_tight (W : Wid rowOf wn full) (O : Ord order) {need : Nat} (h5 : wn 5 < need) : ∀ b ∈ hpB rowOf wn full order, tight need b := fun b hb => by
  by_cases hf : b.isFree = true
  · refine .inr (Nat.lt_of_le_of_lt (free_le hb hf) ?_)
    unfold hpB
    rw [freeSum_heapB, Nat.zero_add]
    refine Nat.lt_of_le_of_lt (Nat.le_of_eq ?_) h5
    by_cases h4 : 4 ∈ full
    · have : (order.filter fun k => !decide (k ∈ full)).Perm [5] := (List.perm_ext_iff_of_nodup (List.Pairwise.filter _ O.nodup) (by decide)).mpr fun k => by
        rw [List.mem_filter, O.mem, List.mem_singleton]
        constructor
        · rintro ⟨h1, h2⟩
          have h3 : k ∉ full := by simpa using h2
          have : ¬ k < 4 := fun q => h3 (W.four k q)
          have : k ≠ 4 := fun q => h3 (q ▸ h4)
          lia
        · rintro rfl
          have : 5 ∉ full := fun q => by have := W.five 5 q; lia
          exact ⟨by lia, by simpa using this⟩
      rw [wsum_perm this]; simp [wsum]
    · have : (order.filter fun k => !decide (k ∈ full)).Perm [4, 5] := (List.perm_ext_iff_of_nodup (List.Pairwise.filter _ O.nodup) (by decide)).mpr fun k => by
        rw [List.mem_filter, O.mem]
        constructor
        · rintro ⟨h1, h2⟩
          have h3 : k ∉ full := by simpa using h2
          have : ¬ k < 4 := fun q => h3 (W.four k q)
          have : k = 4 ∨ k = 5 := by lia
          simpa using this
        · intro h
          have h : k = 4 ∨ k = 5 := by simpa using h
          rcases h with rfl | rfl
          · exact ⟨by lia, by simpa using h4⟩
          · have : 5 ∉ full := fun q => by have := W.five 5 q; lia
            exact ⟨by lia, by simpa using this⟩
      rw [wsum_perm this]; simp [wsum, W.none4 h4]
  · exact .inl (by simpa using hf)
theorem full_fit (W : Wid rowOf wn full) (O : Ord order) {need : Nat} (h1 : 1 ≤ need) (h5 : need ≤ wn 5) : ¬ ∀ b ∈ hpB rowOf wn full order, tight need b := fun h => by
  obtain ⟨b, hb, hf, hs⟩ := name_free (kept := full) (ws := wsOf rowOf wn order) (wn := wn) (j := 5) (fun q => by have := W.five 5 q; lia) (by lia) order 0 ((O.mem 5).mpr (by lia))
  rcases h b hb with q | q
  · rw [q] at hf; cases hf
  · lia
theorem wsum_filter_le {wn : Nat → Nat} {p q : Nat → Bool} (h : ∀ k, p k = true → q k = true) : ∀ (ks : List Nat), wsum wn (ks.filter p) ≤ wsum wn (ks.filter q)
  | [] => Nat.le_refl _
  | k :: ks => by
    have ih := wsum_filter_le (wn := wn) h ks
    by_cases hp : p k = true
    · rw [List.filter_cons_of_pos hp, List.filter_cons_of_pos (h k hp), wsum_cons, wsum_cons]; lia
    · rw [List.filter_cons_of_neg hp]
      by_cases hq : q k = true
      · rw [List.filter_cons_of_pos hq, wsum_cons]; lia
      · rw [List.filter_cons_of_neg hq]; exact ih
theorem room (W : Wid rowOf wn full) (O : Ord order) (l : Liv rowOf roots L) (hL : ∀ k ∈ L, k ∈ kept) {g : Nat} {pre post : List Blk} (e : hpB rowOf wn kept order = pre ++ .free g :: post) : g + 1 + total (Rof rowOf) L ≤ sizeW wn := by
  have h1 : g + 1 ≤ freeSum (hpB rowOf wn kept order) := free_le (b := .free g) (by rw [e]; simp) rfl
  have h2 : freeSum (hpB rowOf wn kept order) ≤ wsum wn (restN L) := by
    unfold hpB
    rw [freeSum_heapB, Nat.zero_add]
    refine Nat.le_trans (wsum_filter_le (q := fun k => !decide (k ∈ L)) (fun k hk => ?_) order) (Nat.le_of_eq ?_)
    · have : k ∉ kept := by simpa using hk
      simpa using fun q => this (hL k q)
    · refine wsum_perm ((List.perm_ext_iff_of_nodup (List.Pairwise.filter _ O.nodup) (restN_nodup L)).mpr fun k => ?_)
      rw [mem_restN, List.mem_filter, O.mem]; simp
  have := used_rest (wn := wn) l
  rw [W.total (l.inF W)]
  lia
theorem words_nonneg {p : Nat → Nat} (row : List Int) : ∀ w ∈ words p (cells row), 0 ≤ w := fun w hw => by
  obtain ⟨c, hc, rfl⟩ := List.mem_map.mp hw
  obtain ⟨x, hx, rfl⟩ := List.mem_map.mp hc
  unfold cellOf
  split
  · simp only [Cell.word]; lia
  · simp only [Cell.word]; split <;> lia
theorem heapB_objs {kept : List Nat} {ws : Nat → List Int} {wn : Nat → Nat} {w : List Int} : ∀ (ks : List Nat) (g : Nat), Blk.obj w ∈ heapB kept ws wn ks g → ∃ k, w = ws k
  | [], g, h => by cases g <;> simp [heapB, freeB] at h
  | k :: ks, g, h => by
    rw [heapB] at h
    split at h
    · rcases List.mem_append.mp h with h | h
      · cases g <;> simp [freeB] at h
      · rcases List.mem_cons.mp h with h | h
        · injection h with h; exact ⟨k, h⟩
        · exact heapB_objs ks _ h
    · exact heapB_objs ks _ h
theorem hp_spots {Φ : Nat → List PyData → Option PyData} (W : Wid rowOf wn full) (O : Ord order) (hk : ∀ k ∈ kept, k ∈ full) {need : Nat} (h1 : 1 ≤ need) :
    spC Φ (hp rowOf wn kept order) need ((List.range (hp rowOf wn kept order).length).map fun (i : Nat) => PyData.int (i : Int)) = some ((nL (spotsB need (hpB rowOf wn kept order) 0)).map .int) := by
  have hl : (hp rowOf wn kept order).length ≤ 900 := by rw [hp_len W O hk]; have := size_le W; lia
  have := spC_flat (Φ := Φ) (need := need) hl h1 (hpB rowOf wn kept order) [] rfl (fun ws h => by
    obtain ⟨k, rfl⟩ := heapB_objs _ _ h
    exact words_nonneg _)
  rw [← items_range]
  unfold hp at this ⊢
  rw [flat_length]
  exact this
end
end Mine

namespace Mine
open PySem
set_option autoImplicit false
set_option maxRecDepth 100000
noncomputable def newF (rowOf : Nat → List Int) (filled : List Int) (k : Nat) : List Int := if k = 4 then filled else rowOf k
theorem new_ne {rowOf : Nat → List Int} {filled : List Int} {k : Nat} (h : k ≠ 4) : newF rowOf filled k = rowOf k := by unfold newF; rw [if_neg h]
theorem new_four (rowOf : Nat → List Int) (filled : List Int) : newF rowOf filled 4 = filled := rfl
theorem Rnew_ne {rowOf : Nat → List Int} {filled : List Int} {k : Nat} (h : k ≠ 4) : Rof (newF rowOf filled) k = Rof rowOf k := by unfold Rof; rw [new_ne h]
theorem Rnew_four (rowOf : Nat → List Int) (filled : List Int) : Rof (newF rowOf filled) 4 = cells filled := rfl
theorem at_keep {A B pre post mid : List Blk} {w : List Int} {g : Nat} (e : A ++ .obj w :: B = pre ++ .free g :: post) (hm : bsize mid = g + 1) :
    ∃ A' B', pre ++ (mid ++ post) = A' ++ .obj w :: B' ∧ bsize A' = bsize A ∧ bsize A ≠ bsize pre := by
  rcases List.append_eq_append_iff.mp e with ⟨as, e1, e2⟩ | ⟨bs, e1, e2⟩
  · cases as with
    | nil => cases e2
    | cons b as =>
      injection e2 with e3 e4
      subst e3
      refine ⟨A, as ++ (mid ++ post), by rw [e1]; simp, rfl, ?_⟩
      rw [e1, bsize_append]
      simp only [bsize, List.map_cons, List.sum_cons, Blk.size]; lia
  · cases bs with
    | nil => cases e2
    | cons b bs =>
      injection e2 with e3 e4
      subst e3
      refine ⟨pre ++ (mid ++ bs), B, by rw [e4]; simp, ?_, ?_⟩
      · rw [e1, bsize_append, bsize_append, bsize_append, hm]
        simp only [bsize, List.map_cons, List.sum_cons, Blk.size]
      · rw [e1, bsize_append]
        simp only [bsize, List.map_cons, List.sum_cons, Blk.size]; lia
section
variable {n : Nat} {rows : List (List Int)} {wide : List Int} {rowOf : Nat → List Int} {wn : Nat → Nat} {full kept order L : List Nat} {roots filled : List Int}
theorem hp_block (W : Wid rowOf wn full) (O : Ord order) (hk : ∀ k ∈ kept, k ∈ full) {k : Nat} (h : k ∈ kept) : ∃ A B, hpB rowOf wn kept order = A ++ .obj (wsOf rowOf wn order k) :: B ∧ bsize A = pos wn order 0 k := by
  obtain ⟨pre, post, e⟩ := List.append_of_mem ((O.mem k).mpr (by have := W.five k (hk k h); lia))
  have hn : k ∉ pre := by
    have := O.nodup
    rw [e, List.nodup_append] at this
    exact fun q => this.2.2 k q k (.head _) rfl
  obtain ⟨A, B, e1, e2⟩ := heapB_obj (ws := wsOf rowOf wn order) (wn := wn) (kept := kept) pre 0 k post (fun i _ hi => by rw [wsOf_len]; exact W.fit i (hk i hi)) h
  rw [← e] at e1
  exact ⟨A, B, e1, by rw [e2, e, pos_at pre 0 hn]⟩
noncomputable def newP (wn : Nat → Nat) (order : List Nat) (a : Nat) (k : Nat) : Nat := if k = 4 then a else pos wn order 0 k
noncomputable def fieldsOf (filled : List Int) : List Int := words (fun _ => 0) (cells filled)
noncomputable def newB (pre post : List Blk) (g : Nat) (filled : List Int) : List Blk := pre ++ .obj (fieldsOf filled) :: (freeB (g + 1 - ((fieldsOf filled).length + 1)) ++ post)
theorem fieldsOf_len (filled : List Int) : (fieldsOf filled).length = filled.length := by simp [fieldsOf, words_length, cells_length]
theorem newB_size {pre post : List Blk} {g : Nat} (hf : filled.length + 1 ≤ g + 1) : bsize (newB pre post g filled) = bsize (pre ++ .free g :: post) := by
  have e : bsize (Blk.obj (fieldsOf filled) :: (freeB (g + 1 - ((fieldsOf filled).length + 1)) ++ post)) = (fieldsOf filled).length + 1 + (bsize (freeB (g + 1 - ((fieldsOf filled).length + 1))) + bsize post) := by
    rw [← bsize_append]; simp [bsize, Blk.size]
  have e2 : bsize (Blk.free g :: post) = g + 1 + bsize post := by simp [bsize, Blk.size]
  have h := fieldsOf_len filled
  unfold newB
  rw [bsize_append, bsize_append, e, e2, bsize_freeB]
  lia
theorem ne4 (l : Liv rowOf roots L) {k : Nat} (h : k ∈ L) : k ≠ 4 := fun e => by have := l.lt4 k h; lia
theorem new_holds (W : Wid rowOf wn full) (O : Ord order) (l : Liv rowOf roots L) (hk : ∀ k ∈ kept, k ∈ full) (hL : ∀ k ∈ L, k ∈ kept) {pre post : List Blk} {g : Nat} (e : hpB rowOf wn kept order = pre ++ .free g :: post)
    (hf : filled.length + 1 ≤ g + 1) (hv : ∀ k, Cell.ptr k ∉ cells filled) : Holds (flat (newB pre post g filled)) (newP wn order (bsize pre)) (Rof (newF rowOf filled)) (· ∈ 4 :: L) := by
  have hmid : bsize (Blk.obj (fieldsOf filled) :: freeB (g + 1 - ((fieldsOf filled).length + 1))) = g + 1 := by
    have h := fieldsOf_len filled
    rw [show Blk.obj (fieldsOf filled) :: freeB (g + 1 - ((fieldsOf filled).length + 1)) = [Blk.obj (fieldsOf filled)] ++ freeB (g + 1 - ((fieldsOf filled).length + 1)) from rfl, bsize_append, bsize_freeB]
    simp only [bsize, List.map_cons, List.map_nil, List.sum_cons, List.sum_nil, Blk.size]; lia
  have hat : ∀ k ∈ L, ∃ A B, newB pre post g filled = A ++ .obj (wsOf rowOf wn order k) :: B ∧ bsize A = pos wn order 0 k ∧ pos wn order 0 k ≠ bsize pre := fun k h => by
    obtain ⟨A, B, e1, e2⟩ := hp_block W O hk (hL k h)
    obtain ⟨A', B', e3, e4, e5⟩ := at_keep (e1.symm.trans e) hmid
    refine ⟨A', B', ?_, e4.trans e2, fun q => e5 (e2.trans q)⟩
    rw [← e3]; simp [newB]
  refine ⟨fun i j hi hj q => ?_, fun k h => ?_, fun k h c hc => ?_, ?_⟩
  · unfold newP at q
    rcases List.mem_cons.mp hi with rfl | hi
    · rcases List.mem_cons.mp hj with rfl | hj
      · rfl
      · rw [if_pos rfl, if_neg (ne4 l hj)] at q
        obtain ⟨_, _, _, _, h⟩ := hat j hj
        exact absurd q.symm h
    · rcases List.mem_cons.mp hj with rfl | hj
      · rw [if_neg (ne4 l hi), if_pos rfl] at q
        obtain ⟨_, _, _, _, h⟩ := hat i hi
        exact absurd q h
      · rw [if_neg (ne4 l hi), if_neg (ne4 l hj)] at q
        exact (hp_holds W O l hk hL).inj i j hi hj q
  · rcases List.mem_cons.mp h with rfl | h
    · have : words (newP wn order (bsize pre)) (Rof (newF rowOf filled) 4) = fieldsOf filled := words_congr fun k hk => absurd hk (hv k)
      rw [this]
      exact objAt_flat
    · obtain ⟨A, B, e1, e2, _⟩ := hat k h
      have hw : words (newP wn order (bsize pre)) (Rof (newF rowOf filled) k) = wsOf rowOf wn order k := by
        rw [Rnew_ne (ne4 l h)]
        exact words_congr fun j hj => by unfold newP; rw [if_neg (ne4 l (l.ptr h hj))]
      have hp' : newP wn order (bsize pre) k = bsize A := by unfold newP; rw [if_neg (ne4 l h), e2]
      rw [hw, hp', e1]
      exact objAt_flat
  · rcases List.mem_cons.mp h with rfl | h
    · cases c with
      | ptr j => exact absurd hc (hv j)
      | val v => exact cells_ok _ _ hc
    · rw [Rnew_ne (ne4 l h)] at hc
      cases c with
      | ptr j => exact .tail _ (l.ptr h hc)
      | val v => exact cells_ok _ _ hc
  · rw [flat_length, newB_size hf, ← e, hpB_size W O hk]; have := size_le W; lia
theorem addC_four {met : List Nat} {c : Cell} (h : c ≠ .ptr 4) : addC (4 :: met) c = 4 :: addC met c := by
  cases c with
  | val v => rfl
  | ptr j =>
    have hj : ¬ j = 4 := fun e => h (by rw [e])
    simp only [addC]
    by_cases hm : j ∈ met
    · rw [if_pos hm, if_pos (.tail _ hm)]
    · rw [if_neg hm, if_neg (fun q => hm ((List.mem_cons.mp q).resolve_left hj))]; rfl
theorem addCs_four : ∀ (cs : List Cell) (met : List Nat), (∀ c ∈ cs, c ≠ .ptr 4) → addCs (4 :: met) cs = 4 :: addCs met cs
  | [], met, _ => rfl
  | c :: cs, met, h => by
    show addCs (addC (4 :: met) c) cs = 4 :: addCs (addC met c) cs
    rw [addC_four (h c (.head _)), addCs_four cs _ fun d hd => h d (.tail _ hd)]
theorem ne_ptr4 {row : List Int} : ∀ c ∈ cells row, c ≠ .ptr 4 := fun c hc e => by
  rw [e] at hc; have := ptr_lt hc; lia
theorem close_four : ∀ (f p : Nat) (met : List Nat), (∀ k ∈ met, k < 4) → closeN (Rof (newF rowOf filled)) f (p + 1) (4 :: met) = 4 :: closeN (Rof rowOf) f p met
  | 0, _, _, _ => rfl
  | f + 1, p, met, h => by
    rw [closeN, closeN, List.getElem?_cons_succ]
    cases hk : met[p]? with
    | none => rfl
    | some k =>
      have hk4 := h k (List.mem_of_getElem? hk)
      simp only
      rw [Rnew_ne (by lia), show addCs (4 :: met) (Rof rowOf k) = 4 :: addCs met (Rof rowOf k) from addCs_four _ _ ne_ptr4]
      exact close_four f (p + 1) _ (addCs_sub (S := (· < 4)) h (cells_in (fun _ q => q) _))
theorem term4 : ∀ (f p : Nat) (met : List Nat), met.Nodup → (∀ k ∈ met, k < 4) → 4 ≤ p + f → termN (Rof rowOf) f p met
  | 0, p, met, hn, hm, hp => by
    have := nodup_bound hn hm
    show met[p]? = none
    exact List.getElem?_eq_none (by lia)
  | f + 1, p, met, hn, hm, hp => by
    unfold termN
    split
    · rename_i k hk
      exact term4 f (p + 1) _ (addCs_nodup _ hn) (addCs_sub (S := (· < 4)) hm (cells_in (fun _ q => q) _)) (by lia)
    · trivial
theorem close_more {R : Nat → List Cell} : ∀ (f p : Nat) (met : List Nat), termN R f p met → closeN R (f + 1) p met = closeN R f p met
  | 0, p, met, h => by
    have h : met[p]? = none := h
    rw [closeN, closeN, h]
  | f + 1, p, met, h => by
    rw [closeN, closeN]
    unfold termN at h
    cases hk : met[p]? with
    | none => rfl
    | some k =>
      rw [hk] at h
      exact close_more f (p + 1) _ h
theorem live_new (l : Liv rowOf roots L) (hv : ∀ k, Cell.ptr k ∉ cells filled) : liveN (Rof (newF rowOf filled)) (.ptr 4 :: cells roots) = 4 :: L := by
  have hm : ∀ k ∈ addCs [] (cells roots), k < 4 := addCs_sub (S := (· < 4)) (fun _ h => (nomatch h)) (cells_in (fun _ q => q) _)
  have hnd : (addCs [] (cells roots)).Nodup := addCs_nodup _ List.nodup_nil
  have e0 : addCs [] (.ptr 4 :: cells roots) = 4 :: addCs [] (cells roots) := by
    show addCs [4] (cells roots) = _
    exact addCs_four _ _ ne_ptr4
  have e1 : ∀ met, addCs met (cells filled) = met := fun met => by
    have : ∀ (cs : List Cell), (∀ k, Cell.ptr k ∉ cs) → addCs met cs = met := fun cs => by
      induction cs with
      | nil => intro _; rfl
      | cons c cs ih =>
        intro h
        cases c with
        | ptr k => exact absurd (.head _) (h k)
        | val v => exact ih fun k hk => h k (.tail _ hk)
    exact this _ hv
  unfold liveN
  rw [e0, closeN, List.getElem?_cons_zero]
  simp only
  rw [Rnew_four, e1, close_four 7 0 _ hm, ← close_more 7 0 _ (term4 7 0 _ hnd hm (by lia)), l.eq]
  rfl
theorem offs_four (R : Nat → List Cell) (L : List Nat) : offs R (4 :: L) 4 = 0 := by simp [offs, total]
noncomputable def endM (rowOf : Nat → List Int) (wn : Nat → Nat) (L : List Nat) (filled : List Int) : List Int :=
  blks (offs (Rof (newF rowOf filled)) (4 :: L)) (Rof (newF rowOf filled)) (4 :: L) ++ fillN (sizeW wn - total (Rof (newF rowOf filled)) (4 :: L))
noncomputable def endR (rowOf : Nat → List Int) (L : List Nat) (filled roots : List Int) : List Int := words (offs (Rof (newF rowOf filled)) (4 :: L)) (cells roots)
theorem total_new (W : Wid rowOf wn full) (l : Liv rowOf roots L) : total (Rof (newF rowOf filled)) (4 :: L) = filled.length + 1 + total (Rof rowOf) L := by
  have : ∀ ks : List Nat, (∀ k ∈ ks, k ≠ 4) → total (Rof (newF rowOf filled)) ks = total (Rof rowOf) ks := fun ks h => by
    unfold total
    congr 1
    exact List.map_congr_left fun k hk => by unfold sz; rw [Rnew_ne (h k hk)]
  rw [show total (Rof (newF rowOf filled)) (4 :: L) = sz (Rof (newF rowOf filled)) 4 + total (Rof (newF rowOf filled)) L by simp [total], this L fun k hk => ne4 l hk]
  unfold sz
  rw [Rnew_four, cells_length]
theorem c_end (W : Wid rowOf wn full) (O : Ord order) (l : Liv rowOf roots L) (hr : roots.length ≤ 3) (hk : ∀ k ∈ kept, k ∈ full) (hL : ∀ k ∈ L, k ∈ kept) {pre post : List Blk} {g : Nat} (e : hpB rowOf wn kept order = pre ++ .free g :: post)
    (hf : filled.length + 1 ≤ g + 1) (hv : ∀ k, Cell.ptr k ∉ cells filled) :
    callD tab FU (n + 3) 13 [iL (flat (newB pre post g filled)), iL ((2 * (bsize pre : Int) + 1) :: words (pos wn order 0) (cells roots))] = some (.tuple [iL (endM rowOf wn L filled), iL (1 :: endR rowOf L filled roots)]) := by
  have H := new_holds W O l hk hL e hf hv
  have hlen : (flat (newB pre post g filled)).length = sizeW wn := by rw [flat_length, newB_size hf, ← e, hpB_size W O hk]
  have hc := c_copy (n := n) (roots := .ptr 4 :: cells roots) H (fun k h => by
      rcases List.mem_cons.mp h with rfl | h
      · lia
      · exact l.lt8 k h) (fun c hc => by
      rcases List.mem_cons.mp hc with rfl | hc
      · exact .head _
      · have := l.root c hc
        cases c with
        | ptr j => exact .tail _ this
        | val v => exact this) (by simp [cells_length]; lia) (by
      rw [live_new l hv, hlen, total_new W l]; have := room W O l hL e; lia)
  rw [live_new l hv, hlen] at hc
  have e1 : words (newP wn order (bsize pre)) (.ptr 4 :: cells roots) = (2 * (bsize pre : Int) + 1) :: words (pos wn order 0) (cells roots) := by
    show (2 * ((newP wn order (bsize pre) 4 : Nat) : Int) + 1) :: words (newP wn order (bsize pre)) (cells roots) = _
    rw [words_congr (p := newP wn order (bsize pre)) (q := pos wn order 0) fun k hk => by unfold newP; rw [if_neg (ne4 l (l.rptr hk))]]
    rfl
  have e2 : words (offs (Rof (newF rowOf filled)) (4 :: L)) (.ptr 4 :: cells roots) = 1 :: endR rowOf L filled roots := by
    show (2 * ((offs (Rof (newF rowOf filled)) (4 :: L) 4 : Nat) : Int) + 1) :: words (offs (Rof (newF rowOf filled)) (4 :: L)) (cells roots) = _
    rw [offs_four]; rfl
  rw [e1, e2] at hc
  exact hc
noncomputable def aheadN (L : List Nat) : List Nat := 4 :: (packN L).filter (fun k => !decide (k = 4))
noncomputable def wdOf (wn : Nat → Nat) (need : Nat) (k : Nat) : Int := if k < 4 then (wn k : Int) else if k = 4 then (need : Int) else (wn 4 : Int) + (wn 5 : Int) - (need : Int)
noncomputable def restA (L : List Nat) : List Nat := (restN L).filter (fun k => !decide (k = 4))
theorem ahead_eq (l : Liv rowOf roots L) : aheadN L = (4 :: L) ++ restA L := by
  unfold aheadN restA
  rw [packN_eq, List.filter_append, List.filter_eq_self.mpr (fun k hk => by have := ne4 l hk; simpa using this)]; rfl
theorem ord_ahead (l : Liv rowOf roots L) : Ord (aheadN L) where
  nodup := by
    unfold aheadN
    rw [List.nodup_cons]
    exact ⟨fun h => by simpa using (List.mem_filter.mp h).2, List.Pairwise.filter _ l.ord.nodup⟩
  mem := fun k => by
    unfold aheadN
    rw [List.mem_cons, List.mem_filter, l.ord.mem]
    by_cases h : k = 4
    · subst h; simp
    · simp [h]
theorem isum_wd (wn : Nat → Nat) (need : Nat) : isum (wdOf wn need) (List.range 6) = (sizeW wn : Int) := by
  simp only [isum, sizeW, wsum, range6, List.map_cons, List.map_nil, List.sum_cons, List.sum_nil, wdOf]
  simp
  lia
theorem wd_sz (W : Wid rowOf wn full) (l : Liv rowOf roots L) : ∀ k ∈ 4 :: L, wdOf wn (filled.length + 1) k = (sz (Rof (newF rowOf filled)) k : Int) := fun k hk => by
  rcases List.mem_cons.mp hk with rfl | hk
  · unfold wdOf sz; rw [Rnew_four, cells_length]; simp
  · have h4 := l.lt4 k hk
    unfold wdOf sz
    rw [if_pos h4, Rnew_ne (ne4 l hk), ← W.fit k (W.four k h4)]
    simp [Rof, cells_length]
theorem due_get (W : Wid rowOf wn full) (l : Liv rowOf roots L) {j : Nat} (hj : j ∈ L) : dictGet (dP (wdOf wn (filled.length + 1)) (aheadN L) 0) (j : Int) = some (offs (Rof (newF rowOf filled)) (4 :: L) j : Int) := by
  rw [dict_get _ 0 j ((ord_ahead l).mem j |>.mpr (l.lt6 j hj)), ahead_eq l]
  refine congrArg some (plI_pack ?_ (wd_sz W l) (.tail _ hj))
  rw [List.nodup_cons]
  exact ⟨fun h => ne4 l h rfl, l.nodup⟩
theorem wd_small (W : Wid rowOf wn full) {need : Nat} (hn : need ≤ 3) {k : Nat} (hk : k < 6) : (wdOf wn need k).natAbs ≤ 20 := by
  have h4 := W.wb 4 (by lia); have h5 := W.wb 5 (by lia); have := W.wb k hk
  unfold wdOf
  split
  · lia
  · split <;> lia
theorem c_due (c : Ctx rows wide rowOf wn full) (l : Liv rowOf roots L) (hf : filled.length ≤ 2) (hv : ∀ k, Cell.ptr k ∉ cells filled) (hroom : total (Rof (newF rowOf filled)) (4 :: L) ≤ sizeW wn) {wider : List Int} (hw : ∀ k, k < 6 → wider[k]? = some (wdOf wn (filled.length + 1) k)) :
    callD tab FU (n + 2) 18 [iL (nL (aheadN L)), iLL (rows.take 4 ++ [filled]), iL wider, iL (nL (4 :: L))] = some (iL (endM rowOf wn L filled)) := by
  have W := c.W
  have hO := ord_ahead l
  have hsum : isum (wdOf wn (filled.length + 1)) (restA L) = ((sizeW wn - total (Rof (newF rowOf filled)) (4 :: L) : Nat) : Int) := by
    have h1 := isum_perm (wd := wdOf wn (filled.length + 1)) (hO.perm ord_range)
    rw [ahead_eq l, isum_append, isum_wd] at h1
    have h2 : ∀ (ks : List Nat), (∀ k ∈ ks, wdOf wn (filled.length + 1) k = (sz (Rof (newF rowOf filled)) k : Int)) → isum (wdOf wn (filled.length + 1)) ks = (total (Rof (newF rowOf filled)) ks : Int) := fun ks => by
      induction ks with
      | nil => intro _; rfl
      | cons j ks ih => intro h; rw [isum_cons, ih fun i hi => h i (.tail _ hi), h j (.head _)]; simp [total]
    rw [h2 _ (wd_sz W l)] at h1
    lia
  have e : heapGo (4 :: L) (offs (Rof (newF rowOf filled)) (4 :: L)) (newF rowOf filled) (wdOf wn (filled.length + 1)) (aheadN L) 0 = endM rowOf wn L filled := by
    rw [ahead_eq l, heapGo_pack (fun k hk => ?_) (4 :: L) (fun _ h => h), hsum]
    · rfl
    · unfold restA at hk
      rw [List.mem_filter, mem_restN] at hk
      intro q
      rcases List.mem_cons.mp q with rfl | q
      · simpa using hk.2
      · exact hk.1.2 q
  have hlen : (endM rowOf wn L filled).length ≤ 900 := by
    unfold endM
    rw [List.length_append, blks_length, fillN_length]; have := size_le W; lia
  have := c_heap (n := n) (order := aheadN L) (rows := rows.take 4 ++ [filled]) (wide := wider) (wd := wdOf wn (filled.length + 1)) (kept := 4 :: L) (p := offs (Rof (newF rowOf filled)) (4 :: L)) (rowOf := newF rowOf filled)
    (fun k h => ⟨hw k ((hO.mem k).mp h), by have := (hO.mem k).mp h; lia, wd_small W (by lia) ((hO.mem k).mp h)⟩) hO.nodup (by rw [hO.length]; lia)
    (fun k h => by
      have ht : (rows.take 4).length = 4 := by rw [List.length_take, c.rlen]; lia
      rcases List.mem_cons.mp h with rfl | h
      · rw [new_four]
        refine ⟨by rw [List.getElem?_append_right (by lia), ht]; rfl, by lia, fun j hj => absurd hj (hv j)⟩
      · have h4 := l.lt4 k h
        rw [new_ne (ne4 l h)]
        refine ⟨?_, by have := W.small k h4; lia, fun j hj => due_get W l (l.ptr h hj)⟩
        rw [List.getElem?_append_left (by lia), List.getElem?_take_of_lt h4]
        exact (c.row4 k h4).1)
    (by rw [e]; exact hlen)
  rw [e] at this
  exact this
theorem c_due_pl (l : Liv rowOf roots L) {need : Nat} {wider : List Int} (hw : ∀ k, k < 6 → wider[k]? = some (wdOf wn need k)) : callD tab FU (n + 1) 17 [iL (nL (aheadN L)), iL wider] = some (.dict (dP (wdOf wn need) (aheadN L) 0)) :=
  c_places (fun k h => ⟨hw k (((ord_ahead l).mem k).mp h), by have := ((ord_ahead l).mem k).mp h; lia⟩) (ord_ahead l).nodup (by rw [(ord_ahead l).length]; lia)
theorem c_due_held (W : Wid rowOf wn full) (l : Liv rowOf roots L) (hr : roots.length ≤ 3) : callD tab FU (n + 1) 16 [iL roots, .dict (dP (wdOf wn (filled.length + 1)) (aheadN L) 0)] = some (iL (endR rowOf L filled roots)) :=
  c_words (fun k hk => due_get W l (l.rptr hk)) (by lia)
end
end Mine

namespace Mine
open PySem
set_option autoImplicit false
set_option maxRecDepth 100000
noncomputable def sNone : PyData := .str (Str.ofString "none")
noncomputable def sSweep : PyData := .str (Str.ofString "sweep")
noncomputable def sCopy : PyData := .str (Str.ofString "copy")
theorem ne_nn : dCmp .ne sNone (.str (Str.ofString "none")) = some false := by decide +kernel
theorem ne_sn : dCmp .ne sSweep (.str (Str.ofString "none")) = some true := by decide +kernel
theorem ne_cn : dCmp .ne sCopy (.str (Str.ofString "none")) = some true := by decide +kernel
theorem eq_sc : dCmp .eq sSweep (.str (Str.ofString "copy")) = some false := by decide +kernel
theorem eq_cc : dCmp .eq sCopy (.str (Str.ofString "copy")) = some true := by decide +kernel
theorem eq_nc : dCmp .eq sNone (.str (Str.ofString "copy")) = some false := by decide +kernel
theorem eq_ns : dCmp .eq sNone (.str (Str.ofString "sweep")) = some false := by decide +kernel
theorem eq_ss : dCmp .eq sSweep (.str (Str.ofString "sweep")) = some true := by decide +kernel
theorem eq_cs : dCmp .eq sCopy (.str (Str.ofString "sweep")) = some false := by decide +kernel
theorem iLL_cat {xs ys : List (List Int)} (h : xs.length + ys.length ≤ lim) : dCat (iLL xs) (iLL ys) = some (iLL (xs ++ ys)) := by
  unfold iLL dCat; simp only [List.length_map]; rw [if_pos h, List.map_append]
theorem iLL_slH {xs : List (List Int)} {hi : Int} (h : xs.length ≤ lim) : dSlH (iLL xs) (.int hi) = some (iLL (xs.take (clampI xs.length hi))) := by
  unfold iLL dSlH; simp only [List.length_map]; rw [if_pos h]; simp [List.map_take]
theorem iLL_slL {xs : List (List Int)} {lo : Int} (h : xs.length ≤ lim) : dSlL (iLL xs) (.int lo) = some (iLL (xs.drop (clampI xs.length lo))) := by
  unfold iLL dSlL; simp only [List.length_map]; rw [if_pos h]; simp [List.map_drop]
section
variable {Φ : Nat → List PyData → Option PyData} {fuel : Nat}
theorem col_got {mem fields how : PyData} {NM H : List Int} {a : Int} (hH : H.length ≤ lim) :
    denSs Φ fuel (fd_allocate_or_collect.body.drop 2) (st15 mem (iL H) fields how (.tuple [iL NM, .int a])) = some (.ret (.tuple [iL NM, iL H, .int a])) := by
  have hi0 : dIdx (.tuple [iL NM, .int a]) (.int 0) = some (iL NM) := rfl
  have hi1 : dIdx (.tuple [iL NM, .int a]) (.int 1) = some (.int a) := rfl
  unfold st15
  refine step_ret ((s_ite_t (by rfl)).trans ?_)
  exact step_ret (s_ret' (by simp only [q_int, q_var, den_idx, den_tuple, q_listOf, dEs_nil, dEs_cons, Store.get, List.set_cons_succ, List.set_cons_zero, List.getElem?_cons_zero, List.getElem?_cons_succ, Option.join_some, Option.bind_some, hi0, hi1, iL_listOf hH, List.length_cons, List.length_nil, Nat.reduceAdd, Nat.reduceLeDiff, if_true, Nat.zero_le]))
theorem col_sweep1 {mem fields : PyData} {M2 H : List Int} (hH : H.length ≤ lim) (h11 : Φ 11 [mem, iL H] = some (iL M2)) :
    denSs Φ fuel ((fd_allocate_or_collect.body.drop 2).take 2) (st15 mem (iL H) fields sSweep .none) = some (.next [some (iL M2), some (iL H), some fields, some sSweep, some .none, none]) := by
  unfold st15
  refine step_next (s_skip (by rfl)) ?_
  refine step_next (σ' := [some (iL M2), some (iL H), some fields, some sSweep, some .none, none]) ((s_ite_t (by exact via (viam eq_ss) rfl)).trans ?_) ss_nil'
  refine step_next (s_assign' (d := iL M2) (by exact h11)) ?_
  exact step_next (s_assign' (d := iL H) (by exact (iL_listOf hH))) ss_nil'
theorem col_copy1 {mem fields roots : PyData} {M2 H2 : List Int} (h13 : Φ 13 [mem, roots] = some (.tuple [iL M2, iL H2])) :
    denSs Φ fuel ((fd_allocate_or_collect.body.drop 2).take 2) (st15 mem roots fields sCopy .none) = some (.next [some (iL M2), some (iL H2), some fields, some sCopy, some .none, some (.tuple [iL M2, iL H2])]) := by
  have hi0 : dIdx (.tuple [iL M2, iL H2]) (.int 0) = some (iL M2) := rfl
  have hi1 : dIdx (.tuple [iL M2, iL H2]) (.int 1) = some (iL H2) := rfl
  unfold st15
  refine step_next (s_skip (by rfl)) ?_
  refine step_next (σ' := [some (iL M2), some (iL H2), some fields, some sCopy, some .none, some (.tuple [iL M2, iL H2])]) ((s_ite_f (by exact via (viam eq_cs) rfl)).trans ?_) ss_nil'
  refine step_next (σ' := [some (iL M2), some (iL H2), some fields, some sCopy, some .none, some (.tuple [iL M2, iL H2])]) ((s_ite_t (by exact via (viam eq_cc) rfl)).trans ?_) ss_nil'
  refine step_next (s_assign' (d := .tuple [iL M2, iL H2]) (by exact h13)) ?_
  refine step_next (s_assign' (d := iL M2) (by exact hi0)) ?_
  exact step_next (s_assign' (d := iL H2) (by exact hi1)) ss_nil'
theorem col_none1 {mem fields : PyData} {H : List Int} (hH : H.length ≤ lim) :
    denSs Φ fuel ((fd_allocate_or_collect.body.drop 2).take 2) (st15 mem (iL H) fields sNone .none) = some (.next [some mem, some (iL H), some fields, some sNone, some .none, none]) := by
  unfold st15
  refine step_next (s_skip (by rfl)) ?_
  refine step_next (σ' := [some mem, some (iL H), some fields, some sNone, some .none, none]) ((s_ite_f (by exact via (viam eq_ns) rfl)).trans ?_) ss_nil'
  refine step_next (σ' := [some mem, some (iL H), some fields, some sNone, some .none, none]) ((s_ite_f (by exact via (viam eq_nc) rfl)).trans ?_) ss_nil'
  exact step_next (s_assign' (d := iL H) (by exact (iL_listOf hH))) ss_nil'
theorem seg_app {σ' : Store} {R : Option Res} : ∀ (k : Nat) {p : PSs} {σ : Store}, denSs Φ fuel (p.take k) σ = some (.next σ') → (∀ i, i < k → ∃ s r, p.drop i = .cons s r) → denSs Φ fuel (p.drop k) σ' = R → denSs Φ fuel p σ = R
  | 0, p, σ, h1, _, h2 => by
    have h1 : denSs Φ fuel .nil σ = some (.next σ') := h1
    rw [ss_nil'] at h1
    cases h1
    exact h2
  | k + 1, p, σ, h1, hc, h2 => by
    obtain ⟨s, r, e⟩ := hc 0 (by lia)
    have e : p = .cons s r := e
    subst e
    have h1 : denSs Φ fuel (.cons s (r.take k)) σ = some (.next σ') := h1
    rw [dSs_cons] at h1 ⊢
    cases hs : denS Φ fuel s σ with
    | none => rw [hs] at h1; cases h1
    | some q =>
      rw [hs] at h1
      cases q with
      | ret d => cases h1
      | next σ₁ => exact seg_app k h1 (fun i hi => hc (i + 1) (by lia)) h2
theorem col_second {mem roots fields how : PyData} {M2 H2 NM : List Int} {a : Int} {fl : PyData} {o5 : Option PyData} (h1 : denSs Φ fuel ((fd_allocate_or_collect.body.drop 2).take 2) (st15 mem roots fields how .none) = some (.next [some (iL M2), some (iL H2), some fl, some how, some .none, o5]))
    (h5 : Φ 5 [iL M2, fl] = some (.tuple [iL NM, .int a])) : denSs Φ fuel (fd_allocate_or_collect.body.drop 2) (st15 mem roots fields how .none) = some (.ret (.tuple [iL NM, iL H2, .int a])) := by
  have hi0 : dIdx (.tuple [iL NM, .int a]) (.int 0) = some (iL NM) := rfl
  have hi1 : dIdx (.tuple [iL NM, .int a]) (.int 1) = some (.int a) := rfl
  refine seg_app (p := fd_allocate_or_collect.body.drop 2) (σ := st15 mem roots fields how .none) 2 h1 (fun i hi => ?_) ?_
  · match i, hi with
    | 0, _ => exact ⟨_, _, rfl⟩
    | 1, _ => exact ⟨_, _, rfl⟩
  refine step_next (s_assign' (d := .tuple [iL NM, .int a]) (by exact h5)) ?_
  exact step_ret (s_ret' (by simp only [q_int, q_var, den_idx, den_tuple, dEs_nil, dEs_cons, Store.get, List.set_cons_succ, List.set_cons_zero, List.getElem?_cons_zero, List.getElem?_cons_succ, Option.join_some, Option.bind_some, hi0, hi1, List.length_cons, List.length_nil, Nat.reduceAdd, Nat.reduceLeDiff, if_true, Nat.zero_le]))
noncomputable def iteL : PS := .ite (.and (.ex (.cmp .lt (.idx (.var 2) (.int 5)) (.var 8))) (.ex (.cmp .ne (.var 6) (.str (Str.ofString "none"))))) (.cons (.assign 14 (.var 7))
    (.cons (.ite (.ex (.cmp .eq (.var 6) (.str (Str.ofString "copy")))) (.cons (.assign 13 (.call 20 (.cons (.var 7) .nil)))
      .nil) .nil)
    .nil)) .nil
noncomputable def cmpSp : PE := .comp (Str.ofString "i") [15, 8] true (.len (.var 15)) condSp (.var 0)
noncomputable def stL (order rows wide roots full filled how live need : PyData) (M H Fd : List Int) (stand kept : PyData) : Store :=
  [some order, some rows, some wide, some roots, some full, some filled, some how, some live, some need, some (iL M), some (iL H), some (iL Fd), some (.tuple [iL M, iL H, iL Fd]), some stand, some kept, none, none, none, none, none, none, none]
theorem lays_keep {order rows wide roots full filled how live : PyData} {need : Nat} {w5 : Int} {M H Fd : List Int} (hw : dIdx wide (.int 5) = some (.int w5)) (h : ¬ w5 < (need : Int)) :
    denS Φ fuel iteL (stL order rows wide roots full filled how live (.int (need : Int)) M H Fd order full) = some (.next (stL order rows wide roots full filled how live (.int (need : Int)) M H Fd order full)) := by
  unfold stL iteL
  exact s_skip (by simp only [q_int, q_str, q_var, den_cmp, den_idx, dC_ex, dC_and, Store.get, List.set_cons_succ, List.set_cons_zero, List.getElem?_cons_zero, List.getElem?_cons_succ, Option.join_some, Option.bind_some, hw, o_lt, o_ne, Option.map_some, decide_eq_false h, Bool.false_eq_true, if_false])
theorem lays_keepN {order rows wide roots full filled live : PyData} {need : Nat} {w5 : Int} {M H Fd : List Int} (hw : dIdx wide (.int 5) = some (.int w5)) :
    denS Φ fuel iteL (stL order rows wide roots full filled sNone live (.int (need : Int)) M H Fd order full) = some (.next (stL order rows wide roots full filled sNone live (.int (need : Int)) M H Fd order full)) := by
  unfold stL iteL
  by_cases h : w5 < (need : Int)
  · have hlt : dCmp .lt (.int w5) (.int (need : Int)) = some true := by simp only [o_lt, decide_eq_true h]
    exact s_skip (by simp only [q_int, q_str, q_var, den_cmp, den_idx, dC_ex, dC_and, Store.get, List.set_cons_succ, List.set_cons_zero, List.getElem?_cons_zero, List.getElem?_cons_succ, Option.join_some, Option.bind_some, hw, hlt, ne_nn, Option.map_some, Bool.false_eq_true, if_false, if_true])
  · exact s_skip (by simp only [q_int, q_str, q_var, den_cmp, den_idx, dC_ex, dC_and, Store.get, List.set_cons_succ, List.set_cons_zero, List.getElem?_cons_zero, List.getElem?_cons_succ, Option.join_some, Option.bind_some, hw, o_lt, o_ne, Option.map_some, decide_eq_false h, Bool.false_eq_true, if_false])
theorem lays_sweep {order rows wide roots full filled live : PyData} {need : Nat} {w5 : Int} {M H Fd : List Int} (hw : dIdx wide (.int 5) = some (.int w5)) (h : w5 < (need : Int)) :
    denS Φ fuel iteL (stL order rows wide roots full filled sSweep live (.int (need : Int)) M H Fd order full) = some (.next (stL order rows wide roots full filled sSweep live (.int (need : Int)) M H Fd order live)) := by
  unfold stL iteL
  have hlt : dCmp .lt (.int w5) (.int (need : Int)) = some true := by simp only [o_lt, decide_eq_true h]
  refine (s_ite_t (by simp only [q_int, q_str, q_var, den_cmp, den_idx, dC_ex, dC_and, Store.get, List.set_cons_succ, List.set_cons_zero, List.getElem?_cons_zero, List.getElem?_cons_succ, Option.join_some, Option.bind_some, hw, hlt, ne_sn, Option.map_some, if_true])).trans ?_
  refine step_next (s_assign' (d := live) (by rfl)) ?_
  exact step_next (s_skip (by exact via (viam eq_sc) rfl)) ss_nil'
theorem lays_copy {order rows wide roots full filled live packed : PyData} {need : Nat} {w5 : Int} {M H Fd : List Int} (hw : dIdx wide (.int 5) = some (.int w5)) (h : w5 < (need : Int)) (hp : Φ 20 [live] = some packed) :
    denS Φ fuel iteL (stL order rows wide roots full filled sCopy live (.int (need : Int)) M H Fd order full) = some (.next (stL order rows wide roots full filled sCopy live (.int (need : Int)) M H Fd packed live)) := by
  unfold stL iteL
  have hlt : dCmp .lt (.int w5) (.int (need : Int)) = some true := by simp only [o_lt, decide_eq_true h]
  refine (s_ite_t (by simp only [q_int, q_str, q_var, den_cmp, den_idx, dC_ex, dC_and, Store.get, List.set_cons_succ, List.set_cons_zero, List.getElem?_cons_zero, List.getElem?_cons_succ, Option.join_some, Option.bind_some, hw, hlt, ne_cn, Option.map_some, if_true])).trans ?_
  refine step_next (s_assign' (d := live) (by rfl)) ?_
  refine step_next ((s_ite_t (by exact via (viam eq_cc) rfl)).trans ?_) ss_nil'
  exact step_next (s_assign' (d := packed) (by exact hp)) ss_nil'
noncomputable def stT (order rows wide roots full filled how live need : PyData) (M H Fd : List Int) (stand kept : PyData) (B : List Int) (spots : List Nat) (got : PyData) : Store :=
  [some order, some rows, some wide, some roots, some full, some filled, some how, some live, some need, some (iL M), some (iL H), some (iL Fd), some (.tuple [iL M, iL H, iL Fd]), some stand, some kept, some (iL B), some (iL (nL spots)), some got, none, none, none, none]
theorem lays_run1 {order rows wide roots full how live stand kept D : PyData} {filled M H Fd B : List Int} {spots : List Nat}
    (hlive : Φ 19 [roots, rows] = some live) (hfl : filled.length ≤ lim) (hmem : Φ 18 [order, rows, wide, full] = some (iL M)) (hpl : Φ 17 [order, wide] = some D) (hheld : Φ 16 [roots, D] = some (iL H)) (hfd : Φ 16 [iL filled, .dict []] = some (iL Fd))
    (hMl : M.length ≤ lim) (hHl : H.length ≤ lim) (hFl : Fd.length ≤ lim)
    (hite : denS Φ fuel iteL (stL order rows wide roots full (iL filled) how live (.int ((filled.length + 1 : Nat) : Int)) M H Fd order full) = some (.next (stL order rows wide roots full (iL filled) how live (.int ((filled.length + 1 : Nat) : Int)) M H Fd stand kept)))
    (hbase : Φ 18 [stand, rows, wide, kept] = some (iL B)) (hB : B.length ≤ 900) (hsp : spC Φ B (filled.length + 1) ((List.range B.length).map fun (i : Nat) => PyData.int (i : Int)) = some ((nL spots).map .int)) :
    denSs Φ fuel (fd_law_lays.body.take 12) (startStore fd_law_lays [order, rows, wide, roots, full, iL filled, how]) = some (.next (stT order rows wide roots full (iL filled) how live (.int ((filled.length + 1 : Nat) : Int)) M H Fd stand kept B spots .none)) := by
  rw [show startStore fd_law_lays [order, rows, wide, roots, full, iL filled, how] = [some order, some rows, some wide, some roots, some full, some (iL filled), some how, none, none, none, none, none, none, none, none, none, none, none, none, none, none, none] from rfl]
  refine step_next (s_assign' (d := live) (by exact hlive)) ?_
  refine step_next (s_assign' (d := .int ((filled.length + 1 : Nat) : Int)) (by simp only [q_int, q_var, q_add, q_len, Store.get, List.set_cons_succ, List.set_cons_zero, List.getElem?_cons_zero, List.getElem?_cons_succ, Option.join_some, Option.bind_some, iL_len hfl, o_add]; rfl)) ?_
  refine step_next (s_assign' (d := iL M) (by exact hmem)) ?_
  refine step_next (s_assign' (d := iL H) (by simp only [q_var, q_call, dEs_nil, dEs_cons, Store.get, List.set_cons_succ, List.set_cons_zero, List.getElem?_cons_zero, List.getElem?_cons_succ, Option.join_some, Option.bind_some, hpl, hheld])) ?_
  refine step_next (s_assign' (d := iL Fd) (by exact hfd)) ?_
  refine step_next (s_assign' (d := .tuple [iL M, iL H, iL Fd]) (by simp only [q_var, den_tuple, q_listOf, dEs_nil, dEs_cons, Store.get, List.set_cons_succ, List.set_cons_zero, List.getElem?_cons_zero, List.getElem?_cons_succ, Option.join_some, Option.bind_some, iL_listOf hMl, iL_listOf hHl, iL_listOf hFl, List.length_cons, List.length_nil, Nat.reduceAdd, Nat.reduceLeDiff, if_true, Nat.zero_le])) ?_
  refine step_next (s_assign' (d := order) (by rfl)) ?_
  refine step_next (s_assign' (d := full) (by rfl)) ?_
  refine step_next hite ?_
  unfold stL
  refine step_next (s_assign' (d := iL B) (by exact hbase)) ?_
  refine step_next (s_assign' (d := iL (nL spots)) ?_) ?_
  · exact e_comp' (d := .int ((B.length : Nat) : Int)) (by exact (iL_len (show B.length ≤ lim by unfold lim; lia))) (range_items (by lia)) hsp
  exact step_next (s_assign' (d := .none) (by rfl)) ss_nil'
theorem eq_nil : dCmp .eq (iL (nL [])) (.list []) = some true := by
  rw [show (PyData.list []) = iL [] from rfl, cmp_eq (pure_iL 0 _) (pure_iL 0 _)]
  rfl
theorem eq_cons (a : Nat) (r : List Nat) : dCmp .eq (iL (nL (a :: r))) (.list []) = some false := by
  rw [show (PyData.list []) = iL [] from rfl, cmp_eq (pure_iL 0 _) (pure_iL 0 _)]
  rfl
theorem lays_run0 {order rows wide roots full filled how live need stand kept : PyData} {M H Fd B : List Int} :
    denSs Φ fuel (fd_law_lays.body.drop 13) (stT order rows wide roots full filled how live need M H Fd stand kept B [] .none) = some (.ret (.bool true)) := by
  have hp : Pure 2 (.tuple [iL M, iL H, iL Fd]) := pure_three (pure_iL 0 _) (pure_iL 0 _) (pure_iL 0 _)
  unfold stT
  refine step_next (s_skip (by exact via (viam (cmp_ne_same hp)) rfl)) ?_
  refine step_next (s_skip (by simp only [q_var, den_cmp, q_isN, q_list, dEs_nil, dC_ex, Store.get, List.set_cons_succ, List.set_cons_zero, List.getElem?_cons_zero, List.getElem?_cons_succ, Option.join_some, Option.bind_some, List.length_cons, List.length_nil, Nat.reduceAdd, Nat.reduceLeDiff, if_true, Nat.zero_le, o_n0, eq_nil, Option.map_some, ne_bool])) ?_
  refine step_next (s_skip (by rfl)) ?_
  exact step_ret (s_ret' (by rfl))
noncomputable def cmpAh : PE := .comp (Str.ofString "n") [] false (.call 20 (.cons (.var 7) .nil)) (.ex (.cmp .ne (.var 0) (.int 4))) (.var 0)
theorem compAh : ∀ (ks : List Nat), compD (fun d => denC Φ (.ex (.cmp .ne (.var 0) (.int 4))) [some d]) (fun d => denE Φ (.var 0) [some d]) ((nL ks).map .int) = some ((nL (ks.filter fun k => !decide (k = 4))).map .int)
  | [] => rfl
  | k :: ks => by
    have ih := compAh ks
    show compD _ _ (PyData.int (k : Int) :: (nL ks).map .int) = _
    rw [compD]
    have ht : denC Φ (.ex (.cmp .ne (.var 0) (.int 4))) [some (.int (k : Int))] = some (!decide (k = 4)) := by
      simp only [q_int, q_var, den_cmp, dC_ex, Store.get, List.set_cons_succ, List.set_cons_zero, List.getElem?_cons_zero, List.getElem?_cons_succ, Option.join_some, Option.bind_some, cmp_ne_int, Option.map_some]
      congr 2
      rw [decide_eq_decide]; lia
    simp only [PyData.canLay0, if_true, ht]
    by_cases hk : k = 4
    · simp only [hk, decide_true, Bool.not_true, List.filter_cons, Bool.false_eq_true, if_false]
      exact ih
    · simp only [hk, decide_false, Bool.not_false, List.filter_cons, if_true]
      simp only [q_var, Store.get, List.getElem?_cons_zero, Option.join_some]
      simp only [q_var, Store.get, List.getElem?_cons_zero, Option.join_some] at ih
      rw [ih]
      simp [nL]
theorem lays_run2 {order roots full how stand kept DS DA : PyData} {rows : List (List Int)} {wide filled : List Int} {M H Fd B NM RH E ER : List Int} {r L : List Nat} {need a : Nat} {w4 w5 : Int}
    (h4 : wide[4]? = some w4) (h5 : wide[5]? = some w5) (hwl : wide.length = 6) (hrl : rows.length = 5) (hL : L.length ≤ 4)
    (hplS : Φ 17 [stand, iL wide] = some DS) (hheldS : Φ 16 [roots, DS] = some (iL RH)) (hRH : RH.length ≤ 900) (hER : ER.length ≤ 900) (hpk : Φ 20 [iL (nL L)] = some (iL (nL (packN L))))
    (hdue : Φ 18 [iL (nL (aheadN L)), iLL (rows.take 4 ++ [filled]), iL (wide.take 4 ++ [(need : Int), w4 + w5 - (need : Int)]), iL (nL (4 :: L))] = some (iL E))
    (hend : Φ 13 [iL NM, iL ((2 * (a : Int) + 1) :: RH)] = some (.tuple [iL E, iL (1 :: ER)]))
    (hplA : Φ 17 [iL (nL (aheadN L)), iL (wide.take 4 ++ [(need : Int), w4 + w5 - (need : Int)])] = some DA) (hheldA : Φ 16 [roots, DA] = some (iL ER)) :
    denSs Φ fuel (fd_law_lays.body.drop 13) (stT order (iLL rows) (iL wide) roots full (iL filled) how (iL (nL L)) (.int (need : Int)) M H Fd stand kept B (a :: r) (.tuple [iL NM, iL RH, .int (a : Int)])) = some (.ret (.bool true)) := by
  have hp : Pure 2 (.tuple [iL M, iL H, iL Fd]) := pure_three (pure_iL 0 _) (pure_iL 0 _) (pure_iL 0 _)
  have hp2 : Pure 2 (.tuple [iL E, iL (1 :: ER)]) := pure_pair (pure_iL 0 _) (pure_iL 0 _)
  have hi0 : dIdx (.tuple [iL NM, iL RH, .int (a : Int)]) (.int 0) = some (iL NM) := rfl
  have hi1 : dIdx (.tuple [iL NM, iL RH, .int (a : Int)]) (.int 1) = some (iL RH) := rfl
  have hi2 : dIdx (.tuple [iL NM, iL RH, .int (a : Int)]) (.int 2) = some (.int (a : Int)) := rfl
  have hs0 : dIdx (iL (nL (a :: r))) (.int 0) = some (.int (a : Int)) := rfl
  have ht1 : dTypeIs "tuple" (.tuple [iL NM, iL RH, .int (a : Int)]) = some true := rfl
  have ht2 : dTypeIs "int" (.int (a : Int)) = some true := rfl
  have hd4 : dIdx (iL wide) (.int 4) = some (.int w4) := iL_idx (i := 4) h4 (by lia)
  have hd5 : dIdx (iL wide) (.int 5) = some (.int w5) := iL_idx (i := 5) h5 (by lia)
  have hf : ((packN L).filter fun k => !decide (k = 4)).length ≤ 10 := by
    refine Nat.le_trans (List.length_filter_le _ _) ?_
    unfold packN
    rw [List.length_append]
    have : ((List.range 6).filter fun k => !decide (k ∈ L)).length ≤ 6 := Nat.le_trans (List.length_filter_le _ _) (by simp)
    lia
  have hpl6 : (packN L).length ≤ 10 := by
    unfold packN
    rw [List.length_append]
    have : ((List.range 6).filter fun k => !decide (k ∈ L)).length ≤ 6 := Nat.le_trans (List.length_filter_le _ _) (by simp)
    lia
  have hc4 : dCat (.list [.int 4]) (iL (nL ((packN L).filter fun k => !decide (k = 4)))) = some (iL (nL (aheadN L))) := by
    rw [show PyData.list [.int 4] = iL (nL [4]) from rfl, iL_cat (by simp only [nL, List.length_map]; unfold lim; simp; lia)]
    rfl
  have hw4 : dSlH (iL wide) (.int 4) = some (iL (wide.take 4)) := by
    rw [iL_slH (by rw [hwl]; decide), hwl]; rfl
  have hr4 : dSlH (iLL rows) (.int 4) = some (iLL (rows.take 4)) := by
    rw [iLL_slH (by rw [hrl]; decide), hrl]; rfl
  have hcw : dCat (iL (wide.take 4)) (.list [.int (need : Int), .int (w4 + w5 - (need : Int))]) = some (iL (wide.take 4 ++ [(need : Int), w4 + w5 - (need : Int)])) := by
    rw [show PyData.list [.int (need : Int), .int (w4 + w5 - (need : Int))] = iL [(need : Int), w4 + w5 - (need : Int)] from rfl, iL_cat (by rw [List.length_take, hwl]; simp [lim])]
  have hcr : dCat (iLL (rows.take 4)) (.list [iL filled]) = some (iLL (rows.take 4 ++ [filled])) := by
    rw [show PyData.list [iL filled] = iLL [filled] from rfl, iLL_cat (by rw [List.length_take, hrl]; simp [lim])]
  have hck : dCat (.list [.int 4]) (iL (nL L)) = some (iL (nL (4 :: L))) := by
    rw [show PyData.list [.int 4] = iL (nL [4]) from rfl, iL_cat (by simp only [nL, List.length_map]; unfold lim; simp; lia)]
    rfl
  have hce : dCat (.list [.int (2 * (a : Int) + 1)]) (iL RH) = some (iL ((2 * (a : Int) + 1) :: RH)) := by
    rw [show PyData.list [.int (2 * (a : Int) + 1)] = iL [2 * (a : Int) + 1] from rfl, iL_cat (by unfold lim; simp; lia)]; rfl
  have hc1 : dCat (.list [.int 1]) (iL ER) = some (iL (1 :: ER)) := by
    rw [show PyData.list [.int 1] = iL [1] from rfl, iL_cat (by unfold lim; simp; lia)]; rfl
  unfold stT
  refine step_next (s_skip (by exact via (viam (cmp_ne_same hp)) rfl)) ?_
  refine step_next (s_skip (by simp only [q_var, den_cmp, q_isN, q_list, dEs_nil, dC_ex, Store.get, List.set_cons_succ, List.set_cons_zero, List.getElem?_cons_zero, List.getElem?_cons_succ, Option.join_some, Option.bind_some, List.length_cons, List.length_nil, Nat.reduceAdd, Nat.reduceLeDiff, if_true, Nat.zero_le, o_n3, eq_cons, Option.map_some, ne_bool])) ?_
  refine step_next (σ' := [some order, some (iLL rows), some (iL wide), some roots, some full, some (iL filled), some how, some (iL (nL L)), some (.int (need : Int)), some (iL M), some (iL H), some (iL Fd), some (.tuple [iL M, iL H, iL Fd]), some stand, some kept, some (iL B), some (iL (nL (a :: r))), some (.tuple [iL NM, iL RH, .int (a : Int)]), some (iL (nL (aheadN L))), some (iL (wide.take 4 ++ [(need : Int), w4 + w5 - (need : Int)])), some (iL E), some (.tuple [iL E, iL (1 :: ER)])]) ((s_ite_t (by rfl)).trans ?_) ?_
  · refine step_next (s_skip (by simp only [q_int, q_var, den_cmp, q_typeIs, den_idx, dC_ex, dC_not, dC_or, Store.get, List.set_cons_succ, List.set_cons_zero, List.getElem?_cons_zero, List.getElem?_cons_succ, Option.join_some, Option.bind_some, ht1, hi2, ht2, hs0, cmp_ne_int, decide_true, Bool.not_true, Option.map_some, Bool.false_eq_true, if_false])) ?_
    refine step_next (s_skip (by simp only [q_int, q_var, den_cmp, den_idx, q_call, dEs_nil, dEs_cons, dC_ex, Store.get, List.set_cons_succ, List.set_cons_zero, List.getElem?_cons_zero, List.getElem?_cons_succ, Option.join_some, Option.bind_some, hi1, hplS, hheldS, cmp_ne_same (pure_iL 0 RH), Option.map_some])) ?_
    refine step_next (s_assign' (d := iL (nL (aheadN L))) ?_) ?_
    · have hcm : denE Φ cmpAh [some order, some (iLL rows), some (iL wide), some roots, some full, some (iL filled), some how, some (iL (nL L)), some (.int (need : Int)), some (iL M), some (iL H), some (iL Fd), some (.tuple [iL M, iL H, iL Fd]), some stand, some kept, some (iL B), some (iL (nL (a :: r))), some (.tuple [iL NM, iL RH, .int (a : Int)]), none, none, none, none] = some (iL (nL ((packN L).filter fun k => !decide (k = 4)))) :=
        e_comp' (d := iL (nL (packN L))) (by exact hpk) (iL_items (by simp only [nL, List.length_map]; unfold lim; lia)) (compAh (packN L))
      unfold cmpAh at hcm
      rw [den_cat, hcm]
      exact hc4
    refine step_next (s_assign' (d := iL (wide.take 4 ++ [(need : Int), w4 + w5 - (need : Int)])) (by simp only [q_int, q_var, q_add, q_sub, den_cat, den_idx, q_slH, q_list, dEs_nil, dEs_cons, Store.get, List.set_cons_succ, List.set_cons_zero, List.getElem?_cons_zero, List.getElem?_cons_succ, Option.join_some, Option.bind_some, List.length_cons, List.length_nil, Nat.reduceAdd, Nat.reduceLeDiff, if_true, Nat.zero_le, hw4, hd4, hd5, o_add, o_sub, hcw])) ?_
    refine step_next (s_assign' (d := iL E) (by simp only [q_int, q_var, den_cat, q_slH, q_list, q_call, dEs_nil, dEs_cons, Store.get, List.set_cons_succ, List.set_cons_zero, List.getElem?_cons_zero, List.getElem?_cons_succ, Option.join_some, Option.bind_some, List.length_cons, List.length_nil, Nat.reduceAdd, Nat.reduceLeDiff, if_true, Nat.zero_le, hr4, hcr, hck, hdue])) ?_
    refine step_next (s_assign' (d := .tuple [iL E, iL (1 :: ER)]) (by simp only [q_int, q_var, q_add, q_mulc, den_cat, den_idx, q_list, q_call, dEs_nil, dEs_cons, Store.get, List.set_cons_succ, List.set_cons_zero, List.getElem?_cons_zero, List.getElem?_cons_succ, Option.join_some, Option.bind_some, List.length_cons, List.length_nil, Nat.reduceAdd, Nat.reduceLeDiff, if_true, Nat.zero_le, hi0, hi1, hi2, o_mulc, o_add, show ((2 : Int).natAbs < 4294967296) by decide, hce, hend])) ?_
    exact step_next (s_skip (by simp only [q_int, q_var, den_cat, den_cmp, q_list, den_tuple, q_call, dEs_nil, dEs_cons, dC_ex, Store.get, List.set_cons_succ, List.set_cons_zero, List.getElem?_cons_zero, List.getElem?_cons_succ, Option.join_some, Option.bind_some, List.length_cons, List.length_nil, Nat.reduceAdd, Nat.reduceLeDiff, if_true, Nat.zero_le, hplA, hheldA, hc1, cmp_ne_same hp2, Option.map_some])) ss_nil'
  exact step_ret (s_ret' (by rfl))
end
end Mine

namespace Mine
open PySem
set_option autoImplicit false
set_option maxRecDepth 100000
section
variable {n : Nat} {rows : List (List Int)} {wide : List Int} {rowOf : Nat → List Int} {wn : Nat → Nat} {full kept order stand L : List Nat} {roots filled : List Int}
theorem c_fields (hf : filled.length ≤ 2) (hv : ∀ k, Cell.ptr k ∉ cells filled) : callD tab FU (n + 1) 16 [iL filled, .dict []] = some (iL (fieldsOf filled)) :=
  c_words (fun k hk => absurd hk (hv k)) (by lia)
theorem wider_get (c : Ctx rows wide rowOf wn full) (need : Nat) : ∀ k, k < 6 → (wide.take 4 ++ [(need : Int), (wn 4 : Int) + (wn 5 : Int) - (need : Int)])[k]? = some (wdOf wn need k) := fun k hk => by
  rw [c.wide_eq]
  match k, hk with
  | 0, _ => rfl
  | 1, _ => rfl
  | 2, _ => rfl
  | 3, _ => rfl
  | 4, _ => rfl
  | 5, _ => rfl
theorem lays_pure (c : Ctx rows wide rowOf wn full) (O : Ord order) (Os : Ord stand) (l : Liv rowOf roots L) (hr : roots.length ≤ 3) (hf : filled.length ≤ 2) (hv : ∀ k, Cell.ptr k ∉ cells filled) (hk : ∀ k ∈ kept, k ∈ full) (hL : ∀ k ∈ L, k ∈ kept) {how : PyData}
    (hite : denS (callD tab FU (n + 3)) FU iteL (stL (iL (nL order)) (iLL rows) (iL wide) (iL roots) (iL (nL full)) (iL filled) how (iL (nL L)) (.int ((filled.length + 1 : Nat) : Int)) (hp rowOf wn full order) (words (pos wn order 0) (cells roots)) (fieldsOf filled) (iL (nL order)) (iL (nL full))) =
      some (.next (stL (iL (nL order)) (iLL rows) (iL wide) (iL roots) (iL (nL full)) (iL filled) how (iL (nL L)) (.int ((filled.length + 1 : Nat) : Int)) (hp rowOf wn full order) (words (pos wn order 0) (cells roots)) (fieldsOf filled) (iL (nL stand)) (iL (nL kept))))) :
    ∃ σ₁, denSs (callD tab FU (n + 3)) FU (fd_law_lays.body.take 12) (startStore fd_law_lays [iL (nL order), iLL rows, iL wide, iL roots, iL (nL full), iL filled, how]) = some (.next σ₁) ∧
      denEs (callD tab FU (n + 3)) es24 σ₁ = some [iL (hp rowOf wn full order), iL (words (pos wn order 0) (cells roots)), iL (fieldsOf filled), how] ∧
      ((∀ b ∈ hpB rowOf wn kept stand, tight (filled.length + 1) b) → denSs (callD tab FU (n + 3)) FU (fd_law_lays.body.drop 13) (σ₁.set 17 (some .none)) = some (.ret (.bool true))) ∧
      ∀ pre g post, hpB rowOf wn kept stand = pre ++ .free g :: post → (∀ b ∈ pre, tight (filled.length + 1) b) → filled.length + 1 ≤ g + 1 →
        denSs (callD tab FU (n + 3)) FU (fd_law_lays.body.drop 13) (σ₁.set 17 (some (.tuple [iL (flat (newB pre post g filled)), iL (words (pos wn stand 0) (cells roots)), .int (bsize pre : Int)]))) = some (.ret (.bool true)) := by
  have W := c.W
  have hid : ∀ k ∈ full, k ∈ full := fun _ h => h
  have hlive := c_live (n := n + 2) c.row4 hr
  rw [← l.eq] at hlive
  have hsz := size_le W
  have hroots : (cells roots).length ≤ 3 := by rw [cells_length]; exact hr
  have h1 := lays_run1 (fuel := FU) hlive (by unfold lim; lia) (c_hp (n := n + 1) W O hid c.hw c.hr) (c_pl (n := n + 2) O c.hw) (c_held (n := n + 2) (row := roots) O c.hw (by lia)) (c_fields (n := n + 2) hf hv)
    (by rw [hp_len W O hid]; unfold lim; lia) (by rw [words_length]; unfold lim; lia) (by rw [fieldsOf_len]; unfold lim; lia) hite (c_hp (n := n + 1) W Os hk c.hw c.hr) (by rw [hp_len W Os hk]; lia) (hp_spots W Os hk (by lia))
  refine ⟨_, h1, ?_, fun ht => ?_, fun pre g post e ht hg => ?_⟩
  · unfold stT es24
    rfl
  · rw [spots_tight _ _ ht]
    exact lays_run0
  · obtain ⟨r, hs⟩ := spots_fit (post := post) hg pre 0 ht
    rw [← e, Nat.zero_add] at hs
    rw [hs]
    have hroom := room W Os l hL e
    have htn := total_new (filled := filled) W l
    exact lays_run2 (w4 := (wn 4 : Int)) (w5 := (wn 5 : Int)) (c.hw 4 (by lia)) (c.hw 5 (by lia)) c.wlen c.rlen l.len (c_pl (n := n + 2) Os c.hw) (c_held (n := n + 2) (row := roots) Os c.hw (by lia)) (by rw [words_length]; lia) (by unfold endR; rw [words_length]; lia) (c_packed (n := n + 2) (by have := l.len; lia))
      (c_due (n := n + 1) c l hf hv (by lia) (wider_get c _)) (c_end (n := n) W Os l hr hk hL e hg hv) (c_due_pl (n := n + 2) l (wider_get c _)) (c_due_held (n := n + 2) W l hr)
theorem alloc_new (W : Wid rowOf wn full) (O : Ord order) (hk : ∀ k ∈ kept, k ∈ full) {pre post : List Blk} {g : Nat} (e : hpB rowOf wn kept order = pre ++ .free g :: post) (ht : ∀ b ∈ pre, tight (filled.length + 1) b) (hg : filled.length + 1 ≤ g + 1) :
    callD tab FU (n + 2) 5 [iL (hp rowOf wn kept order), iL (fieldsOf filled)] = some (.tuple [iL (flat (newB pre post g filled)), .int (bsize pre : Int)]) := by
  have h := c_alloc (n := n) (pre := pre) (post := post) (g := g) (fields := fieldsOf filled) (by rw [← e, hpB_size W O hk]; have := size_le W; lia) (by rw [fieldsOf_len]; exact hg) (by rw [fieldsOf_len]; exact ht)
  rw [← e] at h
  exact h
theorem alloc_thr (W : Wid rowOf wn full) (O : Ord order) (hk : ∀ k ∈ kept, k ∈ full) (hf : filled.length ≤ 2) (ht : ∀ b ∈ hpB rowOf wn kept order, tight (filled.length + 1) b) :
    ∃ σ', denSs (callD tab FU (n + 1)) FU (fd_allocate.body.take 4) (startStore fd_allocate [iL (hp rowOf wn kept order), iL (fieldsOf filled)]) = some (.next σ') ∧ σ'.get 3 = some (.int ((filled.length + 1 : Nat) : Int)) := by
  have h := alloc_through (n := n) (bs := hpB rowOf wn kept order) (fields := fieldsOf filled) (by rw [hpB_size W O hk]; have := size_le W; lia) (by rw [fieldsOf_len]; lia) (by rw [fieldsOf_len]; exact ht)
  rw [fieldsOf_len] at h
  exact h
theorem c_untiled {behind : List Int} (hl : behind.length ≤ 800) : callD tab FU (n + 1) 3 [iL (((behind.length : Int) + 1) :: behind)] = some .none := by
  refine call_run (fd := fd_blocks_of) rfl rfl rfl rfl ?_
  rw [show startStore fd_blocks_of [iL (((behind.length : Int) + 1) :: behind)] = [some (iL (((behind.length : Int) + 1) :: behind)), none, none, none, none, none] from rfl]
  have hlen : dLen (iL (((behind.length : Int) + 1) :: behind)) = some (.int ((behind.length + 1 : Nat) : Int)) := by rw [iL_len (by simp; unfold lim; lia)]; rfl
  have hidx : dIdx (iL (((behind.length : Int) + 1) :: behind)) (.int 0) = some (.int ((behind.length : Int) + 1)) := rfl
  have hge : dCmp .ge (.int ((behind.length : Int) + 1)) (.int 0) = some true := by simp only [o_ge]; rw [decide_eq_true (by lia)]
  have hgt : dCmp .gt (.int (0 + ((behind.length : Int) + 1 + 1))) (.int ((behind.length + 1 : Nat) : Int)) = some true := by simp only [o_gt]; rw [decide_eq_true (by lia)]
  refine step_next (s_assign' (d := .list []) (by simp only [q_list, dEs_nil, Store.get, List.set_cons_succ, List.set_cons_zero, List.getElem?_cons_zero, List.getElem?_cons_succ, Option.join_some, Option.bind_some, List.length_cons, List.length_nil, Nat.reduceAdd, Nat.reduceLeDiff, if_true, Nat.zero_le])) ?_
  refine step_next (s_assign' (d := .int 0) (by simp only [q_int])) ?_
  refine step_ret ((s_forR' (d := .int ((behind.length + 1 : Nat) : Int)) (by simp only [q_var, q_len, Store.get, List.set_cons_succ, List.set_cons_zero, List.getElem?_cons_zero, List.getElem?_cons_succ, Option.join_some, Option.bind_some, hlen]) (range_items (by lia))).trans ?_)
  rw [← items_range, items_succ, loopD]
  generalize items (0 + 1) behind.length = rest
  have hb : denSs (callD tab FU n) FU bodyB ([some (iL (((behind.length : Int) + 1) :: behind)), some (.list []), some (.int 0), none, none, none].set 3 (some (.int ((0 : Nat) : Int)))) = some (.ret .none) := by
    refine step_ret ((s_ite_t ?_).trans ?_)
    · simp only [q_var, den_cmp, dC_ex, Store.get, List.set_cons_succ, List.set_cons_zero, List.getElem?_cons_zero, List.getElem?_cons_succ, Option.join_some, Option.bind_some]
      rw [show ((0 : Nat) : Int) = 0 from rfl, cmp_eq_int, decide_eq_true rfl]; rfl
    refine step_next (s_assign' (d := .int ((behind.length : Int) + 1)) (by simp only [q_var, den_idx, Store.get, List.set_cons_succ, List.set_cons_zero, List.getElem?_cons_zero, List.getElem?_cons_succ, Option.join_some, Option.bind_some]; exact hidx)) ?_
    refine step_next (s_assign' (d := .int ((behind.length : Int) + 1 + 1)) (by exact via hge rfl)) ?_
    refine step_ret ((s_ite_t ?_).trans (step_ret (s_ret' (by simp only [q_none]))))
    simp only [q_var, q_add, den_cmp, q_len, dC_ex, Store.get, List.set_cons_succ, List.set_cons_zero, List.getElem?_cons_zero, List.getElem?_cons_succ, Option.join_some, Option.bind_some, hlen, o_add]
    rw [show ((0 : Nat) : Int) = 0 from rfl, hgt]; rfl
  have hb' := hb
  simp only [List.set_cons_succ, List.set_cons_zero] at hb'
  unfold bodyB at hb'
  simp only [List.set_cons_succ, List.set_cons_zero]
  rw [hb']
theorem flat_one (behind : List Int) : flat [.obj behind] = (behind.length : Int) :: behind := by simp [flat, Blk.ints]
theorem one_thr {behind fields : List Int} (hl : behind.length ≤ 700) (hf : fields.length ≤ 2) :
    ∃ σ', denSs (callD tab FU (n + 1)) FU (fd_allocate.body.take 4) (startStore fd_allocate [iL ((behind.length : Int) :: behind), iL fields]) = some (.next σ') ∧ σ'.get 3 = some (.int ((fields.length + 1 : Nat) : Int)) := by
  have h := alloc_through (n := n) (bs := [.obj behind]) (fields := fields) (by simp [bsize, Blk.size]; lia) (by lia) (fun b hb => by rw [List.mem_singleton.mp hb]; exact .inl rfl)
  rw [flat_one] at h
  exact h
end
end Mine

namespace Mine
open PySem
set_option autoImplicit false
set_option maxRecDepth 100000
noncomputable def m3 (z : Int) : Nat := (z % 3).toNat
theorem m3_le (z : Int) : m3 z ≤ 2 := by unfold m3; lia
theorem mod3 (z : Int) : dMod (.int z) (.int 3) = some (.int (m3 z : Int)) := by
  have h : z.fmod 3 = z % 3 := Int.fmod_eq_emod_of_nonneg z (by decide)
  simp only [o_mod]
  rw [if_neg (by decide), h, show z % 3 = (m3 z : Int) by unfold m3; lia]
noncomputable def m6 (z : Int) : Nat := (z % 6).toNat
theorem m6_le (z : Int) : m6 z ≤ 5 := by unfold m6; lia
theorem mod6 (z : Int) : dMod (.int z) (.int 6) = some (.int (m6 z : Int)) := by
  have h : z.fmod 6 = z % 6 := Int.fmod_eq_emod_of_nonneg z (by decide)
  simp only [o_mod]
  rw [if_neg (by decide), h, show z % 6 = (m6 z : Int) by unfold m6; lia]
noncomputable def m4 (z : Int) : Nat := (z % 4).toNat
theorem m4_lt (z : Int) : m4 z < 4 := by unfold m4; lia
theorem mod4 (z : Int) : dMod (.int z) (.int 4) = some (.int (m4 z : Int)) := by
  have h : z.fmod 4 = z % 4 := Int.fmod_eq_emod_of_nonneg z (by decide)
  simp only [o_mod]
  rw [if_neg (by decide), h, show z % 4 = (m4 z : Int) by unfold m4; lia]
theorem mod_len (z : Int) {b : Nat} (hb : 0 < b) : dMod (.int z) (.int (b : Int)) = some (.int ((z % (b : Int)).toNat : Int)) ∧ (z % (b : Int)).toNat < b := by
  have h : z.fmod (b : Int) = z % (b : Int) := Int.fmod_eq_emod_of_nonneg z (by lia)
  have h0 := Int.emod_nonneg z (show (b : Int) ≠ 0 by lia)
  have h1 := Int.emod_lt_of_pos z (show (0 : Int) < b by lia)
  refine ⟨?_, by lia⟩
  simp only [o_mod]
  rw [if_neg (by lia), h, show ((z % (b : Int)).toNat : Int) = z % (b : Int) by lia]
theorem sl2 (a b : Int) {t : Nat} (h : t ≤ 2) : dSlH (.list [.int a, .int b]) (.int (t : Int)) = some (iL ([a, b].take t)) := by
  rw [show PyData.list [.int a, .int b] = iL [a, b] from rfl, iL_slH (by simp [lim]), clamp_nat, Nat.min_eq_left (by simpa using h)]
theorem sl1 (a : Int) {t : Nat} (h : t ≤ 2) : dSlH (.list [.int a]) (.int ((t : Int) - 1)) = some (iL ([a].take (t - 1))) := by
  rw [show PyData.list [.int a] = iL [a] from rfl, iL_slH (by simp [lim])]
  match t, h with
  | 0, _ => rfl
  | 1, _ => rfl
  | 2, _ => rfl
noncomputable def rotN (base : List Nat) (k : Nat) : List Nat := base.drop k ++ base.take k
theorem ord_rot {base : List Nat} (O : Ord base) (k : Nat) : Ord (rotN base k) := by
  have hp : (rotN base k).Perm base := (List.perm_append_comm).trans (by rw [List.take_append_drop])
  exact ⟨(hp.nodup_iff).mpr O.nodup, fun j => (hp.mem_iff).trans (O.mem j)⟩
theorem rot_cat {base : List Nat} {k : Nat} (hb : base.length = 6) (hk : k ≤ 5) : ∃ u v, dSlL (iL (nL base)) (.int (k : Int)) = some u ∧ dSlH (iL (nL base)) (.int (k : Int)) = some v ∧ dCat u v = some (iL (nL (rotN base k))) := by
  have hl : (nL base).length = 6 := by simp [nL, hb]
  refine ⟨_, _, iL_slL (by rw [hl]; decide), iL_slH (by rw [hl]; decide), ?_⟩
  rw [clamp_nat, hl, Nat.min_eq_left (by lia), iL_cat (by rw [List.length_drop, List.length_take, hl]; unfold lim; lia)]
  simp [rotN, nL, List.map_drop, List.map_take]
noncomputable def base1 : List Nat := [0, 4, 1, 5, 2, 3]
noncomputable def base2 : List Nat := [3, 2, 5, 1, 4, 0]
theorem ord_of_perm {b : List Nat} (h : b.Perm (List.range 6)) : Ord b := ⟨h.nodup_iff.mpr (by decide), fun j => h.mem_iff.trans (by simp)⟩
theorem ord1 : Ord base1 := ord_of_perm (by decide)
theorem ord2 : Ord base2 := ord_of_perm (by decide)
noncomputable def howOf : Nat → PyData
  | 0 => sNone
  | 1 => sSweep
  | _ => sCopy
theorem how_idx {t : Nat} (h : t ≤ 2) : dIdx (.tuple [.str (Str.ofString "none"), .str (Str.ofString "sweep"), .str (Str.ofString "copy")]) (.int (t : Int)) = some (howOf t) := by
  match t, h with
  | 0, _ => rfl
  | 1, _ => rfl
  | 2, _ => rfl
noncomputable def fullOf (t : Nat) : List Nat := if 0 < t then [0, 1, 2, 3, 4] else [0, 1, 2, 3]
section
variable {Φ : Nat → List PyData → Option PyData} {fuel : Nat}
theorem compR : ∀ (rs : List (List Int)), (∀ r ∈ rs, r.length ≤ 900) → compD (fun _ => some true) (fun d => denE Φ (.add (.len (.var 0)) (.int 1)) [some d]) (rs.map iL) = some ((rs.map fun r => (r.length : Int) + 1).map .int)
  | [], _ => rfl
  | r :: rs, h => by
    have ih := compR rs fun q hq => h q (.tail _ hq)
    have hr := h r (.head _)
    have hc : denE Φ (.add (.len (.var 0)) (.int 1)) [some (iL r)] = some (.int ((r.length : Int) + 1)) := by
      exact via (iL_len (show r.length ≤ lim by unfold lim; lia)) rfl
    rw [List.map_cons, compD]
    simp only [(pure_lay (pure_iL 0 r)).1, if_true, hc, ih]
    rfl
noncomputable def row2 (s : Nat → Int) (k : Nat) : List Int := [s (k + 1), s (k + 2)].take (m3 (s k))
noncomputable def rowsOf (s : Nat → Int) : List (List Int) := [row2 s 0, row2 s 3, row2 s 6, row2 s 9, [s 13].take (m3 (s 12) - 1)]
noncomputable def wideOf (s : Nat → Int) : List Int := [((row2 s 0).length : Int) + 1, ((row2 s 3).length : Int) + 1, ((row2 s 6).length : Int) + 1, ((row2 s 9).length : Int) + 1, (m3 (s 12) : Int), (m3 (s 17) : Int)]
noncomputable def filledOf (s : Nat → Int) : List Int := [6 * s 21 + 4, 6 * s 22 + 4].take (m3 (s 13))
noncomputable def stW (ns : List Int) (s : Nat → Int) (o9 o10 o11 o12 o13 o14 : Option PyData) : Store :=
  [some (iL ns), some (iLL (rowsOf s)), some (iL (wideOf s)), some (iL (nL (fullOf (m3 (s 12))))), some (iL [s 14, s 15, s 16]), some (iL (nL (rotN base1 (m6 (s 18))))), some (iL (nL (rotN base2 (m6 (s 19))))), some (iL (filledOf s)), some (howOf (m3 (s 23))), o9, o10, o11, o12, o13, o14]
theorem row2_len (s : Nat → Int) (k : Nat) : (row2 s k).length ≤ 2 := by unfold row2; rw [List.length_take]; simp; lia
theorem law_pre {ns : List Int} {s : Nat → Int} (hl : 24 ≤ ns.length) (hu : ns.length ≤ 63) (hs : ∀ k : Nat, k < 24 → dIdx (iL ns) (.int (k : Int)) = some (.int (s k))) :
    denSs Φ fuel (fd_law.body.take 12) (startStore fd_law [iL ns]) = some (.next (stW ns s none none none none none none)) := by
  rw [show startStore fd_law [iL ns] = [some (iL ns), none, none, none, none, none, none, none, none, none, none, none, none, none, none] from rfl]
  have i0 : dIdx (iL ns) (.int 0) = some (.int (s 0)) := hs 0 (by decide)
  have i1 : dIdx (iL ns) (.int 1) = some (.int (s 1)) := hs 1 (by decide)
  have i2 : dIdx (iL ns) (.int 2) = some (.int (s 2)) := hs 2 (by decide)
  have i3 : dIdx (iL ns) (.int 3) = some (.int (s 3)) := hs 3 (by decide)
  have i4 : dIdx (iL ns) (.int 4) = some (.int (s 4)) := hs 4 (by decide)
  have i5 : dIdx (iL ns) (.int 5) = some (.int (s 5)) := hs 5 (by decide)
  have i6 : dIdx (iL ns) (.int 6) = some (.int (s 6)) := hs 6 (by decide)
  have i7 : dIdx (iL ns) (.int 7) = some (.int (s 7)) := hs 7 (by decide)
  have i8 : dIdx (iL ns) (.int 8) = some (.int (s 8)) := hs 8 (by decide)
  have i9 : dIdx (iL ns) (.int 9) = some (.int (s 9)) := hs 9 (by decide)
  have i10 : dIdx (iL ns) (.int 10) = some (.int (s 10)) := hs 10 (by decide)
  have i11 : dIdx (iL ns) (.int 11) = some (.int (s 11)) := hs 11 (by decide)
  have i12 : dIdx (iL ns) (.int 12) = some (.int (s 12)) := hs 12 (by decide)
  have i13 : dIdx (iL ns) (.int 13) = some (.int (s 13)) := hs 13 (by decide)
  have i14 : dIdx (iL ns) (.int 14) = some (.int (s 14)) := hs 14 (by decide)
  have i15 : dIdx (iL ns) (.int 15) = some (.int (s 15)) := hs 15 (by decide)
  have i16 : dIdx (iL ns) (.int 16) = some (.int (s 16)) := hs 16 (by decide)
  have i17 : dIdx (iL ns) (.int 17) = some (.int (s 17)) := hs 17 (by decide)
  have i18 : dIdx (iL ns) (.int 18) = some (.int (s 18)) := hs 18 (by decide)
  have i19 : dIdx (iL ns) (.int 19) = some (.int (s 19)) := hs 19 (by decide)
  have i20 : dIdx (iL ns) (.int 20) = some (.int (s 20)) := hs 20 (by decide)
  have i21 : dIdx (iL ns) (.int 21) = some (.int (s 21)) := hs 21 (by decide)
  have i22 : dIdx (iL ns) (.int 22) = some (.int (s 22)) := hs 22 (by decide)
  have i23 : dIdx (iL ns) (.int 23) = some (.int (s 23)) := hs 23 (by decide)
  have hlt : dCmp .lt (.int (ns.length : Int)) (.int 24) = some false := by simp only [o_lt]; rw [decide_eq_false (by lia)]
  have hr0 : dSlH (.list [.int (s 1), .int (s 2)]) (.int (m3 (s 0) : Int)) = some (iL (row2 s 0)) := sl2 _ _ (m3_le _)
  have hr3 : dSlH (.list [.int (s 4), .int (s 5)]) (.int (m3 (s 3) : Int)) = some (iL (row2 s 3)) := sl2 _ _ (m3_le _)
  have hr6 : dSlH (.list [.int (s 7), .int (s 8)]) (.int (m3 (s 6) : Int)) = some (iL (row2 s 6)) := sl2 _ _ (m3_le _)
  have hr9 : dSlH (.list [.int (s 10), .int (s 11)]) (.int (m3 (s 9) : Int)) = some (iL (row2 s 9)) := sl2 _ _ (m3_le _)
  have hc4 : dCat (iLL [row2 s 0, row2 s 3]) (.list [iL (row2 s 6), iL (row2 s 9)]) = some (iLL [row2 s 0, row2 s 3, row2 s 6, row2 s 9]) := iLL_cat (xs := [row2 s 0, row2 s 3]) (ys := [row2 s 6, row2 s 9]) (by simp [lim])
  have hc5 : dCat (iLL [row2 s 0, row2 s 3, row2 s 6, row2 s 9]) (.list [iL ([s 13].take (m3 (s 12) - 1))]) = some (iLL (rowsOf s)) := iLL_cat (xs := [row2 s 0, row2 s 3, row2 s 6, row2 s 9]) (ys := [[s 13].take (m3 (s 12) - 1)]) (by simp [lim])
  obtain ⟨u1, v1, hu1, hv1, hw1⟩ := rot_cat (base := base1) (k := m6 (s 18)) rfl (m6_le _)
  obtain ⟨u2, v2, hu2, hv2, hw2⟩ := rot_cat (base := base2) (k := m6 (s 19)) rfl (m6_le _)
  have hb1 : PyData.list [.int 0, .int 4, .int 1, .int 5, .int 2, .int 3] = iL (nL base1) := rfl
  have hb2 : PyData.list [.int 3, .int 2, .int 5, .int 1, .int 4, .int 0] = iL (nL base2) := rfl
  refine step_next (s_skip (by simp only [q_int, q_var, den_cmp, q_len, dC_ex, Store.get, List.set_cons_succ, List.set_cons_zero, List.getElem?_cons_zero, List.getElem?_cons_succ, Option.join_some, Option.bind_some, iL_len (show ns.length ≤ lim by unfold lim; lia), hlt, Option.map_some])) ?_
  refine step_next (s_assign' (d := iLL [row2 s 0, row2 s 3]) ?_) ?_
  · simp only [q_int, q_var, q_mod, den_idx, q_slH, q_list, dEs_nil, dEs_cons, Store.get, List.set_cons_succ, List.set_cons_zero, List.getElem?_cons_zero, List.getElem?_cons_succ, Option.join_some, Option.bind_some, List.length_cons, List.length_nil, Nat.reduceAdd, Nat.reduceLeDiff, if_true, Nat.zero_le, i0, i1, i2, i3, i4, i5, mod3, hr0, hr3]; rfl
  refine step_next (s_assign' (d := iLL [row2 s 0, row2 s 3, row2 s 6, row2 s 9]) ?_) ?_
  · simp only [q_int, q_var, q_mod, den_cat, den_idx, q_slH, q_list, dEs_nil, dEs_cons, Store.get, List.set_cons_succ, List.set_cons_zero, List.getElem?_cons_zero, List.getElem?_cons_succ, Option.join_some, Option.bind_some, List.length_cons, List.length_nil, Nat.reduceAdd, Nat.reduceLeDiff, if_true, Nat.zero_le, i6, i7, i8, i9, i10, i11, mod3, hr6, hr9, hc4]
  refine step_next (s_assign' (d := iL (wideOf s)) ?_) ?_
  · have hcm := e_comp' (Φ := Φ) (σ := [some (iL ns), some (iLL [row2 s 0, row2 s 3, row2 s 6, row2 s 9]), none, none, none, none, none, none, none, none, none, none, none, none, none]) (z := Str.ofString "row") (caps := []) (rng := false) (src := .var 1) (cond := .tt) (elt := .add (.len (.var 0)) (.int 1)) (d := iLL [row2 s 0, row2 s 3, row2 s 6, row2 s 9]) (by simp only [q_var, Store.get, List.set_cons_succ, List.set_cons_zero, List.getElem?_cons_zero, List.getElem?_cons_succ, Option.join_some, Option.bind_some]) (iLL_items (by simp [lim])) (compR (Φ := Φ) [row2 s 0, row2 s 3, row2 s 6, row2 s 9] (fun r hr => by
        have h2 := row2_len s
        simp only [List.mem_cons, List.not_mem_nil, or_false] at hr
        rcases hr with rfl | rfl | rfl | rfl
        · have := h2 0; lia
        · have := h2 3; lia
        · have := h2 6; lia
        · have := h2 9; lia))
    simp only [List.set_cons_succ, List.set_cons_zero]
    rw [den_cat, hcm]
    simp only [q_int, q_var, q_mod, den_idx, q_list, dEs_nil, dEs_cons, Store.get, List.set_cons_succ, List.set_cons_zero, List.getElem?_cons_zero, List.getElem?_cons_succ, Option.join_some, Option.bind_some, List.length_cons, List.length_nil, Nat.reduceAdd, Nat.reduceLeDiff, if_true, Nat.zero_le, i12, i17, mod3]
    exact iL_cat (xs := [row2 s 0, row2 s 3, row2 s 6, row2 s 9].map fun r => (r.length : Int) + 1) (ys := [(m3 (s 12) : Int), (m3 (s 17) : Int)]) (by simp [lim])
  refine step_next (s_assign' (d := iLL (rowsOf s)) ?_) ?_
  · simp only [q_int, q_var, q_sub, q_mod, den_cat, den_idx, q_slH, q_list, dEs_nil, dEs_cons, Store.get, List.set_cons_succ, List.set_cons_zero, List.getElem?_cons_zero, List.getElem?_cons_succ, Option.join_some, Option.bind_some, List.length_cons, List.length_nil, Nat.reduceAdd, Nat.reduceLeDiff, if_true, Nat.zero_le, i12, i13, mod3, o_sub, sl1 (s 13) (m3_le (s 12)), hc5]
  refine step_next (s_assign' (d := iL (nL [0, 1, 2, 3])) ?_) ?_
  · simp only [q_int, q_list, dEs_nil, dEs_cons, Store.get, List.set_cons_succ, List.set_cons_zero, List.getElem?_cons_zero, List.getElem?_cons_succ, Option.join_some, Option.bind_some, List.length_cons, List.length_nil, Nat.reduceAdd, Nat.reduceLeDiff, if_true, Nat.zero_le]; rfl
  refine step_next (σ' := [some (iL ns), some (iLL (rowsOf s)), some (iL (wideOf s)), some (iL (nL (fullOf (m3 (s 12))))), none, none, none, none, none, none, none, none, none, none, none]) ?_ ?_
  · have hw4 : dIdx (iL (wideOf s)) (.int 4) = some (.int (m3 (s 12) : Int)) := rfl
    unfold fullOf
    by_cases h : 0 < m3 (s 12)
    · rw [if_pos h]
      have hgt : dCmp .gt (.int (m3 (s 12) : Int)) (.int 0) = some true := by simp only [o_gt]; rw [decide_eq_true (by lia)]
      refine (s_ite_t (by simp only [q_int, q_var, den_cmp, den_idx, dC_ex, Store.get, List.set_cons_succ, List.set_cons_zero, List.getElem?_cons_zero, List.getElem?_cons_succ, Option.join_some, Option.bind_some, hw4, hgt, Option.map_some])).trans ?_
      exact step_next (s_assign' (d := iL (nL [0, 1, 2, 3, 4])) (by simp only [q_int, q_list, dEs_nil, dEs_cons, Store.get, List.set_cons_succ, List.set_cons_zero, List.getElem?_cons_zero, List.getElem?_cons_succ, Option.join_some, Option.bind_some, List.length_cons, List.length_nil, Nat.reduceAdd, Nat.reduceLeDiff, if_true, Nat.zero_le]; rfl)) ss_nil'
    · rw [if_neg h]
      have hgt : dCmp .gt (.int (m3 (s 12) : Int)) (.int 0) = some false := by simp only [o_gt]; rw [decide_eq_false (by lia)]
      exact s_skip (by simp only [q_int, q_var, den_cmp, den_idx, dC_ex, Store.get, List.set_cons_succ, List.set_cons_zero, List.getElem?_cons_zero, List.getElem?_cons_succ, Option.join_some, Option.bind_some, hw4, hgt, Option.map_some])
  refine step_next (s_assign' (d := iL [s 14, s 15, s 16]) ?_) ?_
  · simp only [q_int, q_var, den_idx, q_list, dEs_nil, dEs_cons, Store.get, List.set_cons_succ, List.set_cons_zero, List.getElem?_cons_zero, List.getElem?_cons_succ, Option.join_some, Option.bind_some, List.length_cons, List.length_nil, Nat.reduceAdd, Nat.reduceLeDiff, if_true, Nat.zero_le, i14, i15, i16]; rfl
  refine step_next (s_assign' (d := iL (nL (rotN base1 (m6 (s 18))))) ?_) ?_
  · simp only [q_int, q_var, q_mod, den_cat, den_idx, q_slH, q_slL, q_list, dEs_nil, dEs_cons, Store.get, List.set_cons_succ, List.set_cons_zero, List.getElem?_cons_zero, List.getElem?_cons_succ, Option.join_some, Option.bind_some, List.length_cons, List.length_nil, Nat.reduceAdd, Nat.reduceLeDiff, if_true, Nat.zero_le, i18, mod6, hb1, hu1, hv1, hw1]
  refine step_next (s_assign' (d := iL (nL (rotN base2 (m6 (s 19))))) ?_) ?_
  · simp only [q_int, q_var, q_mod, den_cat, den_idx, q_slH, q_slL, q_list, dEs_nil, dEs_cons, Store.get, List.set_cons_succ, List.set_cons_zero, List.getElem?_cons_zero, List.getElem?_cons_succ, Option.join_some, Option.bind_some, List.length_cons, List.length_nil, Nat.reduceAdd, Nat.reduceLeDiff, if_true, Nat.zero_le, i19, mod6, hb2, hu2, hv2, hw2]
  refine step_next (s_assign' (d := iL (filledOf s)) ?_) ?_
  · simp only [q_int, q_var, q_add, q_mulc, q_mod, den_idx, q_slH, q_list, dEs_nil, dEs_cons, Store.get, List.set_cons_succ, List.set_cons_zero, List.getElem?_cons_zero, List.getElem?_cons_succ, Option.join_some, Option.bind_some, List.length_cons, List.length_nil, Nat.reduceAdd, Nat.reduceLeDiff, if_true, Nat.zero_le, i13, i21, i22, o_mulc, show ((6 : Int).natAbs < 4294967296) by decide, o_add, mod3, sl2 _ _ (m3_le (s 13))]; rfl
  refine step_next (s_assign' (d := howOf (m3 (s 23))) ?_) ?_
  · simp only [q_int, q_str, q_var, q_mod, den_idx, den_tuple, dEs_nil, dEs_cons, Store.get, List.set_cons_succ, List.set_cons_zero, List.getElem?_cons_zero, List.getElem?_cons_succ, Option.join_some, Option.bind_some, List.length_cons, List.length_nil, Nat.reduceAdd, Nat.reduceLeDiff, if_true, Nat.zero_le, i23, mod3, how_idx (m3_le (s 23))]
  exact ss_nil'
theorem set_split {α : Type} {l : List α} {i : Nat} {v : α} (h : i < l.length) : l.take i ++ [v] ++ l.drop (i + 1) = l.set i v := by
  rw [List.set_eq_take_append_cons_drop, if_pos h]; simp
theorem law_mid {ns : List Int} {s : Nat → Int} {o9 : Option PyData} {M rx : List Int} (hs : ∀ k : Nat, k < 24 → dIdx (iL ns) (.int (k : Int)) = some (.int (s k)))
    (hrx : (rowsOf s)[m4 (s 20)]? = some rx) (hrl : rx.length ≤ 2)
    (htold : ∀ i, i < rx.length → Φ 25 [iL (nL (rotN base1 (m6 (s 18)))), iL (nL (rotN base2 (m6 (s 19)))), iLL (rowsOf s), iLL ((rowsOf s).set (m4 (s 20)) (rx.set i (s 22))), iL (wideOf s), iL [s 14, s 15, s 16], iL (nL (fullOf (m3 (s 12)))), .tuple [.int (m4 (s 20) : Int), .int (i : Int), .int (s 22)]] = some (.bool true))
    (hmem : Φ 18 [iL (nL (rotN base2 (m6 (s 19)))), iLL (rowsOf s), iL (wideOf s), iL (nL (fullOf (m3 (s 12))))] = some (iL M)) (hM : M.length ≤ 900) (hM1 : 1 ≤ M.length) :
    ∃ o10 o11 o12 o13, denSs Φ fuel ((fd_law.body.drop 13).take 4) (stW ns s o9 none none none none none) = some (.next (stW ns s o9 o10 o11 o12 o13 (some (iL (M.drop 1))))) := by
  have i20 : dIdx (iL ns) (.int 20) = some (.int (s 20)) := hs 20 (by decide)
  have i21 : dIdx (iL ns) (.int 21) = some (.int (s 21)) := hs 21 (by decide)
  have i22 : dIdx (iL ns) (.int 22) = some (.int (s 22)) := hs 22 (by decide)
  have hx4 := m4_lt (s 20)
  have hidx : dIdx (iLL (rowsOf s)) (.int (m4 (s 20) : Int)) = some (iL rx) := iLL_idx hrx (by lia)
  have hlen : dLen (iL rx) = some (.int (rx.length : Int)) := iL_len (by unfold lim; lia)
  have hd1 : dSlL (iL M) (.int 1) = some (iL (M.drop 1)) := by
    rw [iL_slL (by unfold lim; lia), show (1 : Int) = ((1 : Nat) : Int) from rfl, clamp_nat, Nat.min_eq_left hM1]
  have hfin : ∀ o10 o11 o12 o13, denSs Φ fuel (.cons (.assign 14 (.slL (.call 18 (.cons (.var 6) (.cons (.var 1) (.cons (.var 2) (.cons (.var 3) .nil))))) (.int 1))) .nil) (stW ns s o9 o10 o11 o12 o13 none) = some (.next (stW ns s o9 o10 o11 o12 o13 (some (iL (M.drop 1))))) := fun o10 o11 o12 o13 => by
    unfold stW
    exact step_next (s_assign' (d := iL (M.drop 1)) (by exact via hmem hd1)) ss_nil'
  by_cases h0 : 0 < rx.length
  · obtain ⟨hmd, hi⟩ := mod_len (s 21) h0
    generalize hie : (s 21 % (rx.length : Int)).toNat = i at hmd hi
    have hgt : dCmp .gt (.int (rx.length : Int)) (.int 0) = some true := by simp only [o_gt]; rw [decide_eq_true (by lia)]
    have hs1 : dSlH (iL rx) (.int (i : Int)) = some (iL (rx.take i)) := by rw [iL_slH (by unfold lim; lia), clamp_nat, Nat.min_eq_left (by lia)]
    have hs2 : dSlL (iL rx) (.int ((i : Int) + 1)) = some (iL (rx.drop (i + 1))) := by
      rw [iL_slL (by unfold lim; lia), show (i : Int) + 1 = ((i + 1 : Nat) : Int) by lia, clamp_nat, Nat.min_eq_left (by lia)]
    have hs3 : dCat (iL (rx.take i)) (.list [.int (s 22)]) = some (iL (rx.take i ++ [s 22])) := iL_cat (xs := rx.take i) (ys := [s 22]) (by rw [List.length_take]; simp; unfold lim; lia)
    have hs4 : dCat (iL (rx.take i ++ [s 22])) (iL (rx.drop (i + 1))) = some (iL (rx.set i (s 22))) := by
      rw [iL_cat (by rw [List.length_append, List.length_take, List.length_drop]; simp; unfold lim; lia), set_split hi]
    have hR : (rowsOf s).length = 5 := rfl
    have ht1 : dSlH (iLL (rowsOf s)) (.int (m4 (s 20) : Int)) = some (iLL ((rowsOf s).take (m4 (s 20)))) := by rw [iLL_slH (by rw [hR]; decide), clamp_nat, hR, Nat.min_eq_left (by lia)]
    have ht2 : dSlL (iLL (rowsOf s)) (.int ((m4 (s 20) : Int) + 1)) = some (iLL ((rowsOf s).drop (m4 (s 20) + 1))) := by
      rw [iLL_slL (by rw [hR]; decide), show (m4 (s 20) : Int) + 1 = ((m4 (s 20) + 1 : Nat) : Int) by lia, clamp_nat, hR, Nat.min_eq_left (by lia)]
    have ht3 : dCat (iLL ((rowsOf s).take (m4 (s 20)))) (.list [iL (rx.set i (s 22))]) = some (iLL ((rowsOf s).take (m4 (s 20)) ++ [rx.set i (s 22)])) := iLL_cat (ys := [rx.set i (s 22)]) (by rw [List.length_take, hR]; simp; unfold lim; lia)
    have ht4 : dCat (iLL ((rowsOf s).take (m4 (s 20)) ++ [rx.set i (s 22)])) (iLL ((rowsOf s).drop (m4 (s 20) + 1))) = some (iLL ((rowsOf s).set (m4 (s 20)) (rx.set i (s 22)))) := by
      rw [iLL_cat (by rw [List.length_append, List.length_take, List.length_drop, hR]; simp; unfold lim; lia), set_split (by rw [hR]; lia)]
    have htl := htold i hi
    refine ⟨some (.int (m4 (s 20) : Int)), some (iL rx), some (.int (i : Int)), some (iLL ((rowsOf s).set (m4 (s 20)) (rx.set i (s 22)))), ?_⟩
    unfold stW
    refine step_next (s_assign' (d := .int (m4 (s 20) : Int)) (by simp only [q_int, q_var, q_mod, den_idx, Store.get, List.set_cons_succ, List.set_cons_zero, List.getElem?_cons_zero, List.getElem?_cons_succ, Option.join_some, Option.bind_some, i20, mod4])) ?_
    refine step_next (s_assign' (d := iL rx) (by exact hidx)) ?_
    refine step_next (σ' := stW ns s o9 (some (.int (m4 (s 20) : Int))) (some (iL rx)) (some (.int (i : Int))) (some (iLL ((rowsOf s).set (m4 (s 20)) (rx.set i (s 22))))) none) ((s_ite_t (by simp only [q_int, q_var, den_cmp, q_len, dC_ex, Store.get, List.set_cons_succ, List.set_cons_zero, List.getElem?_cons_zero, List.getElem?_cons_succ, Option.join_some, Option.bind_some, hlen, hgt, Option.map_some])).trans ?_) (hfin _ _ _ _)
    refine step_next (s_assign' (d := .int (i : Int)) (by simp only [q_int, q_var, q_mod, den_idx, q_len, Store.get, List.set_cons_succ, List.set_cons_zero, List.getElem?_cons_zero, List.getElem?_cons_succ, Option.join_some, Option.bind_some, i21, hlen, hmd])) ?_
    refine step_next (s_assign' (d := iLL ((rowsOf s).set (m4 (s 20)) (rx.set i (s 22)))) (by simp only [q_int, q_var, q_add, den_cat, den_idx, q_slH, q_slL, q_list, dEs_nil, dEs_cons, Store.get, List.set_cons_succ, List.set_cons_zero, List.getElem?_cons_zero, List.getElem?_cons_succ, Option.join_some, Option.bind_some, List.length_cons, List.length_nil, Nat.reduceAdd, Nat.reduceLeDiff, if_true, Nat.zero_le, i22, o_add, hs1, hs2, hs3, hs4, ht1, ht2, ht3, ht4])) ?_
    exact step_next (s_skip (by simp only [q_int, q_var, den_idx, den_tuple, q_call, dEs_nil, dEs_cons, dC_ex, dC_not, Store.get, List.set_cons_succ, List.set_cons_zero, List.getElem?_cons_zero, List.getElem?_cons_succ, Option.join_some, Option.bind_some, List.length_cons, List.length_nil, Nat.reduceAdd, Nat.reduceLeDiff, if_true, Nat.zero_le, i22, htl, Option.map_some, Bool.not_true])) ss_nil'
  · have hgt : dCmp .gt (.int (rx.length : Int)) (.int 0) = some false := by simp only [o_gt]; rw [decide_eq_false (by lia)]
    refine ⟨some (.int (m4 (s 20) : Int)), some (iL rx), none, none, ?_⟩
    unfold stW
    refine step_next (s_assign' (d := .int (m4 (s 20) : Int)) (by simp only [q_int, q_var, q_mod, den_idx, Store.get, List.set_cons_succ, List.set_cons_zero, List.getElem?_cons_zero, List.getElem?_cons_succ, Option.join_some, Option.bind_some, i20, mod4])) ?_
    refine step_next (s_assign' (d := iL rx) (by exact hidx)) ?_
    refine step_next (σ' := stW ns s o9 (some (.int (m4 (s 20) : Int))) (some (iL rx)) none none none) (s_skip (by simp only [q_int, q_var, den_cmp, q_len, dC_ex, Store.get, List.set_cons_succ, List.set_cons_zero, List.getElem?_cons_zero, List.getElem?_cons_succ, Option.join_some, Option.bind_some, hlen, hgt, Option.map_some])) (hfin _ _ _ _)
theorem law_r1 {ns : List Int} {s : Nat → Int} {o9 o10 o11 o12 o13 : Option PyData} {b : List Int} (hb : b.length ≤ 900) (hf : (filledOf s).length ≤ 2) :
    denEs Φ esR1 (stW ns s o9 o10 o11 o12 o13 (some (iL b))) = some [iL (((b.length : Int) + 1) :: b), iL (List.replicate (filledOf s).length 0)] := by
  have hc : dCat (.list [.int ((b.length : Int) + 1)]) (iL b) = some (iL (((b.length : Int) + 1) :: b)) := iL_cat (xs := [(b.length : Int) + 1]) (by simp; unfold lim; lia)
  have hl : dLen (iL b) = some (.int (b.length : Int)) := iL_len (by unfold lim; lia)
  have hl2 : dLen (iL (filledOf s)) = some (.int ((filledOf s).length : Int)) := iL_len (by unfold lim; lia)
  have hr : dRepl (.int 0) (.int ((filledOf s).length : Int)) = some (iL (List.replicate (filledOf s).length 0)) := by rw [iL_repl (by lia)]; simp
  unfold esR1 stW
  simp only [q_int, q_var, q_add, den_cat, q_repl, q_list, q_len, dEs_nil, dEs_cons, Store.get, List.set_cons_succ, List.set_cons_zero, List.getElem?_cons_zero, List.getElem?_cons_succ, Option.join_some, Option.bind_some, List.length_cons, List.length_nil, Nat.reduceAdd, Nat.reduceLeDiff, if_true, Nat.zero_le, hl, hl2, o_add, hc, hr]
theorem law_r2 {ns : List Int} {s : Nat → Int} {o9 o10 o11 o12 o13 : Option PyData} {b : List Int} (hb : b.length ≤ 900) (hf : (filledOf s).length ≤ 2) :
    denEs Φ esR2 (stW ns s o9 o10 o11 o12 o13 (some (iL b))) = some [iL ((b.length : Int) :: b), iL (List.replicate (filledOf s).length 0)] := by
  have hc : dCat (.list [.int (b.length : Int)]) (iL b) = some (iL ((b.length : Int) :: b)) := iL_cat (xs := [(b.length : Int)]) (by simp; unfold lim; lia)
  have hl : dLen (iL b) = some (.int (b.length : Int)) := iL_len (by unfold lim; lia)
  have hl2 : dLen (iL (filledOf s)) = some (.int ((filledOf s).length : Int)) := iL_len (by unfold lim; lia)
  have hr : dRepl (.int 0) (.int ((filledOf s).length : Int)) = some (iL (List.replicate (filledOf s).length 0)) := by rw [iL_repl (by lia)]; simp
  unfold esR2 stW
  simp only [q_int, q_var, den_cat, q_repl, q_list, q_len, dEs_nil, dEs_cons, Store.get, List.set_cons_succ, List.set_cons_zero, List.getElem?_cons_zero, List.getElem?_cons_succ, Option.join_some, Option.bind_some, List.length_cons, List.length_nil, Nat.reduceAdd, Nat.reduceLeDiff, if_true, Nat.zero_le, hl, hl2, hc, hr]
theorem law_short {n : Nat} {ns : List Int} (hl : ns.length < 24) : callD tab FU (n + 1) 27 [iL ns] = some (.bool true) := by
  refine call_run (fd := fd_law) rfl rfl rfl rfl ?_
  rw [show startStore fd_law [iL ns] = [some (iL ns), none, none, none, none, none, none, none, none, none, none, none, none, none, none] from rfl]
  have hlt : dCmp .lt (.int (ns.length : Int)) (.int 24) = some true := by simp only [o_lt]; rw [decide_eq_true (by lia)]
  refine step_ret ((s_ite_t (by simp only [q_int, q_var, den_cmp, q_len, dC_ex, Store.get, List.set_cons_succ, List.set_cons_zero, List.getElem?_cons_zero, List.getElem?_cons_succ, Option.join_some, Option.bind_some, iL_len (show ns.length ≤ lim by unfold lim; lia), hlt, Option.map_some])).trans ?_)
  exact step_ret (s_ret' (by rfl))
end
noncomputable def rowFn (s : Nat → Int) (k : Nat) : List Int := ((rowsOf s)[k]?).getD []
noncomputable def wnFn (s : Nat → Int) : Nat → Nat
  | 0 => (row2 s 0).length + 1
  | 1 => (row2 s 3).length + 1
  | 2 => (row2 s 6).length + 1
  | 3 => (row2 s 9).length + 1
  | 4 => m3 (s 12)
  | 5 => m3 (s 17)
  | _ => 0
theorem law_ctx (s : Nat → Int) : Ctx (rowsOf s) (wideOf s) (rowFn s) (wnFn s) (fullOf (m3 (s 12))) := by
  have h2 := row2_len s
  have h12 := m3_le (s 12)
  have h17 := m3_le (s 17)
  have hmem : ∀ k, k ∈ fullOf (m3 (s 12)) → k < 4 ∨ (k = 4 ∧ 0 < m3 (s 12)) := fun k h => by
    unfold fullOf at h
    split at h
    · rename_i hp
      simp only [List.mem_cons, List.not_mem_nil, or_false] at h
      lia
    · simp only [List.mem_cons, List.not_mem_nil, or_false] at h
      lia
  have hfit : ∀ k ∈ fullOf (m3 (s 12)), (rowFn s k).length + 1 = wnFn s k := fun k hk => by
    rcases hmem k hk with h | ⟨rfl, hp⟩
    · match k, h with
      | 0, _ => rfl
      | 1, _ => rfl
      | 2, _ => rfl
      | 3, _ => rfl
    · show ([s 13].take (m3 (s 12) - 1)).length + 1 = m3 (s 12)
      rw [List.length_take]; simp; lia
  have hw : ∀ k, k < 6 → (wideOf s)[k]? = some (wnFn s k : Int) := fun k h => by
    match k, h with
    | 0, _ => rfl
    | 1, _ => rfl
    | 2, _ => rfl
    | 3, _ => rfl
    | 4, _ => rfl
    | 5, _ => rfl
  have hr : ∀ k ∈ fullOf (m3 (s 12)), (rowsOf s)[k]? = some (rowFn s k) := fun k hk => by
    have h5 : k < 5 := by rcases hmem k hk with h | ⟨rfl, _⟩ <;> lia
    match k, h5 with
    | 0, _ => rfl
    | 1, _ => rfl
    | 2, _ => rfl
    | 3, _ => rfl
    | 4, _ => rfl
  refine ⟨⟨fun k h => ?_, hfit, fun k h => ?_, fun k h => ?_, fun h => ?_, fun k h => ?_, ?_⟩, hw, rfl, hr, rfl⟩
  · match k, h with
    | 0, _ => exact h2 0
    | 1, _ => exact h2 3
    | 2, _ => exact h2 6
    | 3, _ => exact h2 9
  · unfold fullOf
    match k, h with
    | 0, _ => split <;> simp
    | 1, _ => split <;> simp
    | 2, _ => split <;> simp
    | 3, _ => split <;> simp
  · rcases hmem k h with h | ⟨rfl, _⟩ <;> lia
  · show m3 (s 12) = 0
    unfold fullOf at h
    split at h
    · simp at h
    · lia
  · match k, h with
    | 0, _ => have := h2 0; show (row2 s 0).length + 1 ≤ 3; lia
    | 1, _ => have := h2 3; show (row2 s 3).length + 1 ≤ 3; lia
    | 2, _ => have := h2 6; show (row2 s 6).length + 1 ≤ 3; lia
    | 3, _ => have := h2 9; show (row2 s 9).length + 1 ≤ 3; lia
    | 4, _ => show m3 (s 12) ≤ 3; lia
    | 5, _ => show m3 (s 17) ≤ 3; lia
  · unfold fullOf; split <;> decide
theorem filled_len (s : Nat → Int) : (filledOf s).length ≤ 2 := by unfold filledOf; rw [List.length_take]; simp; lia
theorem filled_val (s : Nat → Int) : ∀ k, Cell.ptr k ∉ cells (filledOf s) := fun k h => by
  obtain ⟨z, hz, e⟩ := List.mem_map.mp h
  have hz := List.mem_of_mem_take hz
  simp only [List.mem_cons, List.not_mem_nil, or_false] at hz
  have : ¬ z % 6 < 4 := by rcases hz with rfl | rfl <;> lia
  unfold cellOf at e
  rw [if_neg this] at e
  cases e
end Mine

namespace Mine
open PySem PyProof.Rows PySem.W
set_option autoImplicit false
set_option maxRecDepth 100000
section
variable {prog : Program} {w : World} {m : Mod} {B0 : Heap} {C : Addr} {q : Nat}
variable {rows : List (List Int)} {wide : List Int} {rowOf : Nat → List Int} {wn : Nat → Nat} {full kept order stand L : List Nat} {roots filled : List Int}
theorem ways_law (M : ModOk m) (G : GenOk m B0) (c : Ctx rows wide rowOf wn full) (O : Ord order) (hr : roots.length ≤ 3) :
    LSpec prog w m B0 (q + 5) 23 [iL (nL order), iLL rows, iL wide, iL roots, iL (nL full)] (.ret (.bool true)) := by
  obtain ⟨σ₁, ds, h1, h2, h3, h4⟩ := ways_pure (n := q + 1) c O (liv rowOf roots) hr
  exact ways_ret M G (fuel := FU) (n := q + 4) rfl h1 h2 h3 h4
theorem lays_any (M : ModOk m) (X : Own m B0 C) (c : Ctx rows wide rowOf wn full) (O : Ord order) (Os : Ord stand) (l : Liv rowOf roots L) (hr : roots.length ≤ 3) (hf : filled.length ≤ 2) (hv : ∀ k, Cell.ptr k ∉ cells filled) (hk : ∀ k ∈ kept, k ∈ full) (hL : ∀ k ∈ L, k ∈ kept) {how : PyData}
    (hite : denS (callD tab FU (q + 1 + 3)) FU iteL (stL (iL (nL order)) (iLL rows) (iL wide) (iL roots) (iL (nL full)) (iL filled) how (iL (nL L)) (.int ((filled.length + 1 : Nat) : Int)) (hp rowOf wn full order) (words (pos wn order 0) (cells roots)) (fieldsOf filled) (iL (nL order)) (iL (nL full))) =
      some (.next (stL (iL (nL order)) (iLL rows) (iL wide) (iL roots) (iL (nL full)) (iL filled) how (iL (nL L)) (.int ((filled.length + 1 : Nat) : Int)) (hp rowOf wn full order) (words (pos wn order 0) (cells roots)) (fieldsOf filled) (iL (nL stand)) (iL (nL kept)))))
    {out : Outc} (L15 : LSpec prog w m B0 (q + 4) 15 [iL (hp rowOf wn full order), iL (words (pos wn order 0) (cells roots)), iL (fieldsOf filled), how] out)
    (hcase : (∃ pre g post, hpB rowOf wn kept stand = pre ++ .free g :: post ∧ (∀ b ∈ pre, tight (filled.length + 1) b) ∧ filled.length + 1 ≤ g + 1 ∧ out = .ret (.tuple [iL (flat (newB pre post g filled)), iL (words (pos wn stand 0) (cells roots)), .int (bsize pre : Int)])) ∨ ((∀ b ∈ hpB rowOf wn kept stand, tight (filled.length + 1) b) ∧ out = .exc (.ref C))) :
    LSpec prog w m B0 (q + 5) 24 [iL (nL order), iLL rows, iL wide, iL roots, iL (nL full), iL filled, how] (.ret (.bool true)) := by
  obtain ⟨σ₁, h1, h2, h3, h4⟩ := lays_pure (n := q + 1) c O Os l hr hf hv hk hL hite
  rcases hcase with ⟨pre, g, post, e, ht, hg, rfl⟩ | ⟨ht, rfl⟩
  · exact lays_ret M X (fuel := FU) (n := q + 4) rfl h1 h2 L15 (fun cls h => nomatch h) (h4 pre g post e ht hg)
  · exact lays_ret M X (fuel := FU) (n := q + 4) rfl h1 h2 L15 (fun cls h => by injection h with h; exact h.symm) (h3 ht)
theorem alloc_exc (M : ModOk m) (X : Own m B0 C) (W : Wid rowOf wn full) (O : Ord order) (hk : ∀ k ∈ kept, k ∈ full) (hf : filled.length ≤ 2) (ht : ∀ b ∈ hpB rowOf wn kept order, tight (filled.length + 1) b) :
    LSpec prog w m B0 (q + 3) 5 [iL (hp rowOf wn kept order), iL (fieldsOf filled)] (.exc (.ref C)) := by
  obtain ⟨σ', h1, h2⟩ := alloc_thr (n := q + 1) W O hk hf ht
  exact alloc_O M X (fuel := FU) (n := q + 2) h1 h2 (by lia) (by lia)
theorem lays_law (M : ModOk m) (X : Own m B0 C) (c : Ctx rows wide rowOf wn full) (O : Ord order) (hr : roots.length ≤ 3) (hf : filled.length ≤ 2) (hv : ∀ k, Cell.ptr k ∉ cells filled) {t : Nat} (ht2 : t ≤ 2) :
    LSpec prog w m B0 (q + 5) 24 [iL (nL order), iLL rows, iL wide, iL roots, iL (nL full), iL filled, howOf t] (.ret (.bool true)) := by
  have W := c.W
  have l := liv rowOf roots
  generalize hLe : liveN (Rof rowOf) (cells roots) = L at l
  have hid : ∀ k ∈ full, k ∈ full := fun _ h => h
  have hidL : ∀ k ∈ L, k ∈ L := fun _ h => h
  have hLf := l.inF W
  have hHl : (words (pos wn order 0) (cells roots)).length ≤ lim := by rw [words_length, cells_length]; unfold lim; lia
  have hw5 : dIdx (iL wide) (.int 5) = some (.int (wn 5 : Int)) := iL_idx (i := 5) (c.hw 5 (by lia)) (by lia)
  by_cases h5 : filled.length + 1 ≤ wn 5
  · rcases fit_or (filled.length + 1) (hpB rowOf wn full order) with ht | ⟨pre, g, post, e, ht, hg⟩
    · exact absurd ht (full_fit W O (by lia) h5)
    · have L5 : LSpec prog w m B0 (q + 3) 5 [iL (hp rowOf wn full order), iL (fieldsOf filled)] (.ret (.tuple [iL (flat (newB pre post g filled)), .int (bsize pre : Int)])) := LSpec.of_call (M.call (fuel := FU) (q + 3)) (alloc_new (n := q + 1) W O hid e ht hg)
      have L15 := collect_ret M X (fuel := FU) (roots := iL (words (pos wn order 0) (cells roots))) (how := howOf t) L5 (fun cls h => nomatch h) (col_got hHl)
      exact lays_any M X c O O l hr hf hv hid hLf (lays_keep hw5 (by lia)) L15 (.inl ⟨pre, g, post, e, ht, hg, rfl⟩)
  · have htf := full_tight W O (need := filled.length + 1) (by lia)
    have L5 : LSpec prog w m B0 (q + 3) 5 [iL (hp rowOf wn full order), iL (fieldsOf filled)] (.exc (.ref C)) := alloc_exc M X W O hid hf htf
    match t, ht2 with
    | 0, _ =>
      have L15 := collect_exc M X (fuel := FU) (how := sNone) L5 (col_none1 hHl) rfl L5
      exact lays_any M X c O O l hr hf hv hid hLf (lays_keepN hw5) L15 (.inr ⟨htf, rfl⟩)
    | 1, _ =>
      have h1 := col_sweep1 (fuel := FU) (fields := iL (fieldsOf filled)) hHl (cp_sweep (n := q) W O l hr hid hLf)
      rcases fit_or (filled.length + 1) (hpB rowOf wn L order) with ht | ⟨pre, g, post, e, ht, hg⟩
      · have L15 := collect_exc M X (fuel := FU) L5 h1 rfl (alloc_exc M X W O hLf hf ht)
        exact lays_any M X c O O l hr hf hv hLf hidL (lays_sweep hw5 (by lia)) L15 (.inr ⟨ht, rfl⟩)
      · have L15 := collect_ret M X (fuel := FU) L5 (fun cls h => by injection h with h; exact h.symm) (col_second h1 (alloc_new (n := q + 1) W O hLf e ht hg))
        exact lays_any M X c O O l hr hf hv hLf hidL (lays_sweep hw5 (by lia)) L15 (.inl ⟨pre, g, post, e, ht, hg, rfl⟩)
    | 2, _ =>
      have h13 : callD tab FU (q + 3) 13 [iL (hp rowOf wn full order), iL (words (pos wn order 0) (cells roots))] = some (.tuple [iL (hp rowOf wn L (packN L)), iL (words (pos wn (packN L) 0) (cells roots))]) := by
        rw [hp_packed W l, held_packed W l]
        exact cp_copy (n := q) W O l hr hid hLf
      have h1 := col_copy1 (fuel := FU) (fields := iL (fieldsOf filled)) h13
      have hpk := c_packed (n := q + 3) (live := L) (by have := l.len; lia)
      rcases fit_or (filled.length + 1) (hpB rowOf wn L (packN L)) with ht | ⟨pre, g, post, e, ht, hg⟩
      · have L15 := collect_exc M X (fuel := FU) L5 h1 rfl (alloc_exc M X W l.ord hLf hf ht)
        exact lays_any M X c O l.ord l hr hf hv hLf hidL (lays_copy hw5 (by lia) hpk) L15 (.inr ⟨ht, rfl⟩)
      · have L15 := collect_ret M X (fuel := FU) L5 (fun cls h => by injection h with h; exact h.symm) (col_second h1 (alloc_new (n := q + 1) W l.ord hLf e ht hg))
        exact lays_any M X c O l.ord l hr hf hv hLf hidL (lays_copy hw5 (by lia) hpk) L15 (.inl ⟨pre, g, post, e, ht, hg, rfl⟩)
theorem law_all (M : ModOk m) (G : GenOk m B0) (X : Own m B0 C) (ns : List Int) (hu : ns.length ≤ 63) : LSpec prog w m B0 (q + 6) 27 [.list (ns.map .int)] (.ret (.bool true)) := by
  show LSpec prog w m B0 (q + 6) 27 [iL ns] (.ret (.bool true))
  by_cases hl : ns.length < 24
  · exact LSpec.of_call (M.call (fuel := FU) (q + 6)) (law_short (n := q + 5) hl)
  obtain ⟨s, hs⟩ : ∃ s : Nat → Int, ∀ k : Nat, k < 24 → dIdx (iL ns) (.int (k : Int)) = some (.int (s k)) :=
    ⟨fun k => ns.getD k 0, fun k hk => iL_idx (by show ns[k]? = some (ns.getD k 0); rw [List.getD_eq_getElem?_getD, List.getElem?_eq_getElem (by lia)]; rfl) (by lia)⟩
  have c := law_ctx s
  have W := c.W
  have O1 : Ord (rotN base1 (m6 (s 18))) := ord_rot ord1 _
  have O2 : Ord (rotN base2 (m6 (s 19))) := ord_rot ord2 _
  have hr : [s 14, s 15, s 16].length ≤ 3 := Nat.le_refl 3
  have hf := filled_len s
  have hid : ∀ k ∈ fullOf (m3 (s 12)), k ∈ fullOf (m3 (s 12)) := fun _ h => h
  have hrow := c.row4 (m4 (s 20)) (m4_lt _)
  have hM := hp_len W O2 hid
  have hsz := size_le W
  have hs1 : 1 ≤ sizeW (wnFn s) := by
    have := W.pos1 (W.four 0 (by lia))
    simp only [sizeW, wsum, range6, List.map_cons, List.map_nil, List.sum_cons, List.sum_nil]; lia
  obtain ⟨o10, o11, o12, o13, h3⟩ := law_mid (Φ := callD tab FU (q + 5)) (fuel := FU) (o9 := some (iL (nL (rotN base2 (m6 (s 19)))))) hs hrow.1 hrow.2 (fun i hi => c_told (n := q + 1) c O1 O2 hr (m4_lt (s 20)) hi (s 22)) (c_hp (n := q + 3) W O2 hid c.hw c.hr) (by lia) (by lia)
  have hbl : ((hp (rowFn s) (wnFn s) (fullOf (m3 (s 12))) (rotN base2 (m6 (s 19)))).drop 1).length ≤ 100 := by rw [List.length_drop]; lia
  have hrep : (List.replicate (filledOf s).length (0 : Int)).length = (filledOf s).length := by simp
  obtain ⟨σ', ha1, ha2⟩ := one_thr (n := q + 2) (behind := (hp (rowFn s) (wnFn s) (fullOf (m3 (s 12))) (rotN base2 (m6 (s 19)))).drop 1) (fields := List.replicate (filledOf s).length 0) (by lia) (by lia)
  refine law_ret M (fuel := FU) (n := q + 5) (law_pre (by lia) hu hs) (one := iL (nL (rotN base1 (m6 (s 18))))) (two := iL (nL (rotN base2 (m6 (s 19))))) rfl rfl (fun order ho => ?_) h3
    (law_r1 (by lia) hf) (refusal M X (alloc_V M (fuel := FU) (n := q + 3) (c_untiled (n := q + 2) (by lia))) (.inr ⟨rfl, rfl⟩))
    (law_r2 (by lia) hf) (refusal M X (alloc_O M X (fuel := FU) (n := q + 3) ha1 ha2 (by lia) (by lia)) (.inl ⟨rfl, rfl⟩))
  obtain ⟨od, rfl, hO⟩ : ∃ od, order = iL (nL od) ∧ Ord od := by
    rcases ho with rfl | rfl
    · exact ⟨_, rfl, O1⟩
    · exact ⟨_, rfl, O2⟩
  refine ⟨_, _, ?_, ways_law M G c hO hr, ?_, lays_law M X c hO hr hf (filled_val s) (m3_le (s 23))⟩
  · rfl
  · rfl
end
theorem fin : PySem.Challenge.rw_sx_zcinder_5.Holds := glue (N := 6) (by lia) fun ns hu prog w m B0 C M G X => law_all (q := 0) M G X ns hu
end Mine

theorem PySem.Challenge.cw_sx_zcinder_5_holds : PySem.Challenge.rw_sx_zcinder_5.Holds :=
  Mine.fin
