import PyProof.Rows.All
import Wide.All
import OpenK.AllK
import Wide.FinOn
import Lean
import PySem.Challenge.RW_pq0374_01
set_option Elab.async false
set_option linter.all false
section
open PySem PySem.W PySem.Calls PyProof.Rows
set_option maxRecDepth 100000
set_option maxHeartbeats 8000000
namespace Mine
theorem hand {p : Prop} (H : Hook) (h : p) : p := h
end Mine
local macro_rules | `(tactic| o_head $H) => `(tactic| exact Mine.hand $H (by assumption))
namespace Mine
theorem cap (h : PySem.Challenge.rw_pq0374_01.row.Holds) : PySem.Challenge.rw_pq0374_01.row.Holds := by
  k_head
noncomputable abbrev rr : RowW := OpenRow.toRowW PySem.Challenge.rw_pq0374_01.row
noncomputable def qv : Program := view PySem.Challenge.pw_pq0374_01 [1, 2, 3, 5, 6, 7, 8, 9, 10, 11, 12, 13, 15, 16, 17, 18, 19, 20, 21]
abbrev lo : List Str := [Str.ofString "LEVELS", Str.ofString "BASES"]
def as : List Addr := [2, 3, 15, 18, 23, 24, 26, 27, 29, 30, 31, 33, 34, 36, 37, 38, 39, 40, 41, 44, 47, 52, 53, 55, 56, 58, 59, 60, 62, 63, 65, 66, 67, 68, 69, 72, 79, 80, 81, 84, 86, 87, 88, 91, 92, 100, 102, 103, 105, 106, 107, 109, 110, 112, 113, 114, 116, 117, 119, 120, 121, 123, 124, 126, 127, 128, 130, 131, 133, 134, 135, 137, 138, 140, 141, 142, 144, 145, 147, 148, 149, 151, 152, 154, 155, 156, 157, 158, 159, 160, 163, 170, 172, 173, 175, 176, 177, 179, 180, 182, 183, 184, 186, 187, 189, 190, 191, 193, 194, 196, 197, 198, 200, 201, 203, 204, 205, 207, 208, 210, 211, 212, 214, 215, 217, 218, 219, 221, 222, 224, 225, 226, 228, 229, 231, 232, 233, 235, 236, 238, 239, 240, 242, 243, 245, 246, 247, 249, 250, 252, 253, 254, 256, 257, 259, 260, 261, 263, 264, 266, 267, 268, 270, 271, 273, 274, 275, 277, 278, 280, 281, 282, 284, 285, 287, 288, 289, 291, 292, 294, 295, 296, 298, 299, 301, 302, 303, 305, 306, 308, 309, 310, 311, 312, 315, 317, 318, 320, 321, 322, 324, 325, 327, 328, 329, 331, 332, 334, 335, 336, 338, 339, 341, 342, 343, 345, 346, 348, 349, 350, 352, 353, 355, 356, 357, 360, 361]
theorem keys : ∀ P, as = (cap.heap_1 P).map (·.1) := fun P => by kernel_rfl
noncomputable abbrev hk : Hook := kHook cap.heap_1 as keys
noncomputable abbrev Xt : Shared → Bool := fun s => xlAt qv [] s && recOk (RowW.records rr) s
theorem left_two {p q : Program} {loose : List Str} {Xt : Shared → Bool} {α : Type} {Yf : Shared → α} {Ya : World → α} {N : Nat} {g0 : Bool} (row : String)
    (hf : ∀ w : World, (openEnds treeTable p (w.withFollow row false) N).map (fun s => (openSeen q loose (importedModules p.main.body) Xt g0 s, Yf s)) = some (openGood q loose, Ya (w.withFollow row false)))
    (ht : ∀ w : World, (openEnds treeTable p (w.withFollow row true) N).map (fun s => (openSeen q loose (importedModules p.main.body) Xt g0 s, Yf s)) = some (openGood q loose, Ya (w.withFollow row true))) : LeftO p q loose Xt Yf Ya N g0 :=
  fun w => byRow2 row (P := fun w => (openEnds treeTable p w N).map (fun s => (openSeen q loose (importedModules p.main.body) Xt g0 s, Yf s)) = some (openGood q loose, Ya w)) hf ht w
noncomputable abbrev tRun := @PySem.W.Fast.tw14082659384304107361
noncomputable abbrev tTab := PySem.W.Fast.tw14364793385576792824
noncomputable abbrev tNs := @PySem.W.Fast.tw8920871248978507458
noncomputable abbrev tSeen := @PySem.W.Fast.tw4187177175401517315
noncomputable def topFromQ (p : Program) (w : World) (N : Nat) (s₀ : Shared) : Option Shared :=
  match s₀.heap.isNs mainGlobals && s₀.gens.size == 0 with
  | true => (tRun tTab p w s₀.heap.objs.size (tNs s₀.heap mainGlobals "__annotations__") N s₀ (topStub p)).bind fun s₁ => match staticsOk (importedModules p.main.body) s₀.heap s₁.heap && namesBound p s₁.heap && gensDone s₁ && laidKept s₀.heap s₁.heap with
      | true => some s₁
      | false => none
  | false => none
theorem topFromQ_eq (p : Program) (w : World) (N : Nat) (s₀ : Shared) : topFrom treeTable p w N s₀ = topFromQ p w N s₀ := by
  unfold topFrom topFromQ
  simp only [tRun, tTab, tNs]
  rw [← PySem.W.Fast.te14082659384304107361, ← PySem.W.Fast.te14364793385576792824, ← PySem.W.Fast.te8920871248978507458]
  rfl
noncomputable abbrev Side (b : Bool) : Prop := ∀ w : World, ((fencedOpening treeTable PySem.Challenge.pw_pq0374_01 (w.withFollow "special-get-raises" b) 6102).bind (topFromQ PySem.Challenge.pw_pq0374_01 (w.withFollow "special-get-raises" b) 6102)).map (fun s => (tSeen qv lo (importedModules PySem.Challenge.pw_pq0374_01.main.body) Xt true s, hk.obs s)) = some (openGood qv lo, hk.val (w.withFollow "special-get-raises" b))
theorem side0 : Side false := by
  intro w; kernel_rfl
theorem side1 : Side true := by
  intro w; kernel_rfl
theorem left : LeftO PySem.Challenge.pw_pq0374_01 qv lo Xt hk.obs hk.val 6102 := by
  have hq : topFrom treeTable = topFromQ := by funext p w N s; exact topFromQ_eq p w N s
  have hs : @openSeen = tSeen := PySem.W.Fast.te4187177175401517315
  refine left_two "special-get-raises" (fun w => ?_) (fun w => ?_)
  · rw [openEnds, hq, hs]; exact side0 w
  · rw [openEnds, hq, hs]; exact side1 w
end Mine
end
set_option genSizeOf false
set_option genSizeOfSpec false
local macro_rules | `(tactic| omega) => `(tactic| first | lia | omega (splitDisjunctions := true))
section
/-! The pure interpreter: values, abstract heap, small syntax, semantics. No model in sight. -/
namespace Mine

inductive PV where
  | none
  | bool (b : Bool)
  | int (i : Int)
  | str (s : String)
  | tup (l : List PV)
  | obj (n : Nat)
  deriving Inhabited

mutual
/-- Python's == upon plain things -/
noncomputable def PV.eqb : PV → PV → Bool
  | .none, .none => true
  | .bool a, .bool b => a == b
  | .bool a, .int j => (if a then 1 else 0) == j
  | .int i, .bool b => i == (if b then 1 else 0)
  | .int a, .int b => a == b
  | .str a, .str b => a == b
  | .tup a, .tup b => PV.eqbL a b
  | _, _ => false
noncomputable def PV.eqbL : List PV → List PV → Bool
  | [], [] => true
  | a :: as, b :: bs => PV.eqb a b && PV.eqbL as bs
  | _, _ => false
end
/-- no object within, no deeper than told -/
noncomputable def PV.flat : Nat → PV → Bool
  | _, .none | _, .bool _ | _, .int _ | _, .str _ => true
  | n + 1, .tup l => l.all (PV.flat n)
  | _, _ => false

inductive PO where
  | list (l : List PV)
  | rlist (l : List PV)
  | dict (l : List (String × PV))
  | inst (l : List (String × PV))
  deriving Inhabited

noncomputable abbrev Hp := List PO
noncomputable abbrev Loc := String → Option PV
noncomputable def Loc.set (ρ : Loc) (x : String) (v : PV) : Loc := fun y => if y = x then some v else ρ y
noncomputable def Loc.empty : Loc := fun _ => Option.none

inductive Res (α : Type) where
  | stuck
  | ok (a : α) (σ : Hp)
  | err (w : String) (s : Int) (σ : Hp)
  deriving Inhabited

noncomputable def Res.bind {α β : Type} (r : Res α) (f : α → Hp → Res β) : Res β := match r with
  | .stuck => .stuck
  | .ok a σ => f a σ
  | .err w s σ => .err w s σ

inductive AOp where | add | sub | mul | fdiv | mod deriving DecidableEq
inductive COp where | eq | ne | lt | le | gt | ge deriving DecidableEq

inductive PE where
  | none | bool (b : Bool) | int (i : Int) | str (s : String)
  | loc (x : String)
  | gint (x : String)
  | bin (op : AOp) (a b : PE)
  | cmp (op : COp) (a b : PE)
  | isin (neg : Bool) (a b : PE)
  | inG (x : String) (a : PE)
  | notNone (a : PE)
  | and (a b : PE) | or (a b : PE) | not (a : PE)
  | ite (c a b : PE)
  | anil | acons (a b : PE)
  | list (as : PE) | tup (as : PE) | dict (ks : List String) (as : PE)
  | sub (a i : PE)
  | sliceTo (a hi : PE) | sliceFrom (a lo : PE) | slice2 (a lo hi : PE)
  | attr (a : PE) (x : String)
  | gget (x : String) (a d : PE)
  | gitem (x : String) (a : PE)
  | call (f : String) (as : PE)
  | meth (o : PE) (f : String) (as : PE)
  | new (a : PE)
  | append (o v : PE) | pop (o : PE)
  | len (a : PE) | listOf (a : PE) | tupleOf (a : PE)
  | cells (lim : Nat) (md : Int)
  deriving Inhabited

/-- a block: a statement and what stands behind it -/
inductive PB where
  | nil
  | expr (e : PE) (k : PB)
  | asg (x : String) (e : PE) (k : PB)
  | asgT (xs : List String) (e : PE) (k : PB)
  | asgAttr (o : PE) (a : String) (e : PE) (k : PB)
  | asgItem (o : PE) (key : String) (e : PE) (k : PB)
  | augLoc (x : String) (op : AOp) (e : PE) (k : PB)
  | augAttr (o : PE) (a : String) (op : AOp) (e : PE) (k : PB)
  | ifS (c : PE) (a b : PB) (k : PB)
  | whileS (c : PE) (b : PB) (k : PB)
  | forR (x : String) (as : PE) (b : PB) (k : PB)
  | forL (x : String) (e : PE) (b : PB) (k : PB)
  | ret (e : PE) (k : PB)
  | raise (w s : PE) (k : PB)
  | tryRet (e : PE) (k : PB)
  | brk (k : PB)
  deriving Inhabited

structure FnDef where
  params : List String
  body : PB

noncomputable abbrev CF := String → List PV → Hp → Res PV


noncomputable def levelsTab : List (String × Int) := [("<->", 1), ("->", 2), ("<-", 2), ("\\/", 3), ("xor", 3), ("/\\", 4), ("<", 5), (">", 5), ("<=", 5), (">=", 5), ("=", 5), ("!=", 5), ("in", 6), ("subset", 6), ("superset", 6), ("union", 7), ("diff", 7), ("symdiff", 7), ("..", 8), ("+", 9), ("-", 9), ("*", 10), ("div", 10), ("mod", 10), ("intersect", 10), ("^", 11), ("++", 12)]
noncomputable def basesTab : List (String × String) := [("int", "int"), ("bool", "bool"), ("string", "str")]
noncomputable def gdict : String → Option (List (String × PV))
  | "LEVELS" => some (levelsTab.map fun p => (p.1, .int p.2))
  | "BASES" => some (basesTab.map fun p => (p.1, .str p.2))
  | _ => Option.none
noncomputable def gtup : String → Option (List PV)
  | "SINGLE_LEVELS" => some [.int 5, .int 6, .int 8]
  | _ => Option.none
noncomputable def gintT : String → Option Int
  | "MOST_DEPTH" => some 40
  | "RIGHT_LEVEL" => some 12
  | _ => Option.none

noncomputable def okInt (i : Int) (σ : Hp) : Res PV := if i.natAbs ≤ 1000000000000 then .ok (.int i) σ else .stuck

noncomputable def newObj (o : PO) (σ : Hp) : Res PV := .ok (.obj σ.length) (σ ++ [o])

noncomputable def listAt (σ : Hp) (n : Nat) : Option (List PV) := match σ[n]? with
  | some (.list l) => some l
  | _ => Option.none
noncomputable def seqAt (σ : Hp) (n : Nat) : Option (List PV) := match σ[n]? with
  | some (.list l) => some l
  | some (.rlist l) => some l
  | _ => Option.none
noncomputable def dictAt (σ : Hp) (n : Nat) : Option (List (String × PV)) := match σ[n]? with
  | some (.dict l) => some l
  | _ => Option.none
noncomputable def instAt (σ : Hp) (n : Nat) : Option (List (String × PV)) := match σ[n]? with
  | some (.inst l) => some l
  | _ => Option.none

noncomputable def getKey (x : String) (l : List (String × PV)) : Option PV := match l with
  | [] => Option.none
  | (y, v) :: r => if y = x then some v else getKey x r
noncomputable def putKey (x : String) (v : PV) (l : List (String × PV)) : List (String × PV) := match l with
  | [] => [(x, v)]
  | (y, u) :: r => if y = x then (y, v) :: r else (y, u) :: putKey x v r

noncomputable def onInt {α : Type} (z : α) (a : PV) (k : Int → α) : α := match a with
  | .int x => k x
  | _ => z
noncomputable def onStr {α : Type} (z : α) (a : PV) (k : String → α) : α := match a with
  | .str x => k x
  | _ => z
noncomputable def onTup {α : Type} (z : α) (a : PV) (k : List PV → α) : α := match a with
  | .tup x => k x
  | _ => z
noncomputable def onObj {α : Type} (z : α) (a : PV) (k : Nat → α) : α := match a with
  | .obj x => k x
  | _ => z
noncomputable def onSome {α β : Type} (z : β) (o : Option α) (k : α → β) : β := match o with
  | some x => k x
  | Option.none => z
noncomputable def addV (a b : PV) (σ : Hp) : Res PV := match a with
  | .int x => onInt .stuck b fun y => okInt (x + y) σ
  | .str x => onStr .stuck b fun y => if (x ++ y).length ≤ 100000 then .ok (.str (x ++ y)) σ else .stuck
  | .tup x => onTup .stuck b fun y => if (x ++ y).length ≤ 100000 then .ok (.tup (x ++ y)) σ else .stuck
  | .obj n => onObj .stuck b fun m => onSome .stuck (listAt σ n) fun x => onSome .stuck (listAt σ m) fun y => if (x ++ y).length ≤ 100000 then newObj (.list (x ++ y)) σ else .stuck
  | _ => .stuck
noncomputable def binV (op : AOp) (a b : PV) (σ : Hp) : Res PV := match op with
  | .add => addV a b σ
  | .sub => onInt .stuck a fun x => onInt .stuck b fun y => okInt (x - y) σ
  | .mul => onInt .stuck a fun x => onInt .stuck b fun y => if x.natAbs ≤ 1000000000000 ∧ y.natAbs ≤ 1000000000000 then okInt (x * y) σ else .stuck
  | .fdiv => onInt .stuck a fun x => onInt .stuck b fun y => if 0 < y ∧ y.natAbs ≤ 1000000 then okInt (Int.fdiv x y) σ else .stuck
  | .mod => onInt .stuck a fun x => onInt .stuck b fun y => if 0 < y then okInt (Int.fmod x y) σ else .stuck

/-- in place, of ints alone -/
noncomputable def augV (op : AOp) (a b : PV) (σ : Hp) : Res PV := match op with
  | .add => onInt .stuck a fun x => onInt .stuck b fun y => okInt (x + y) σ
  | .sub => onInt .stuck a fun x => onInt .stuck b fun y => okInt (x - y) σ
  | _ => .stuck

noncomputable def eqV (a b : PV) (σ : Hp) : Option Bool := match a, b with
  | .obj n, .obj m => match listAt σ n, listAt σ m with
    | some x, some y => if x.all (PV.flat 60) && y.all (PV.flat 60) then some (PV.eqbL x y) else Option.none
    | _, _ => Option.none
  | a, b => if PV.flat 60 a && PV.flat 60 b then some (PV.eqb a b) else Option.none
noncomputable def cmpV (op : COp) (a b : PV) (σ : Hp) : Res PV := match op with
  | .eq => onSome .stuck (eqV a b σ) fun r => .ok (.bool r) σ
  | .ne => onSome .stuck (eqV a b σ) fun r => .ok (.bool (!r)) σ
  | .lt => onInt .stuck a fun x => onInt .stuck b fun y => .ok (.bool (decide (x < y))) σ
  | .le => onInt .stuck a fun x => onInt .stuck b fun y => .ok (.bool (decide (x ≤ y))) σ
  | .gt => onInt .stuck a fun x => onInt .stuck b fun y => .ok (.bool (decide (y < x))) σ
  | .ge => onInt .stuck a fun x => onInt .stuck b fun y => .ok (.bool (decide (y ≤ x))) σ

/-- `in` upon a tuple of flat things -/
noncomputable def inL (a : PV) (l : List PV) : Option Bool := if PV.flat 20 a && l.all (PV.flat 20) then some (l.any fun y => PV.eqb y a) else Option.none

noncomputable def pyIdx (k : Int) (len : Nat) : Option Nat :=
  let j := if k < 0 then k + len else k
  if 0 ≤ j && j < len then some j.toNat else Option.none
noncomputable def getL (l : List PV) (k : Int) (σ : Hp) : Res PV := if k.natAbs ≤ 1000000000000 then onSome .stuck ((pyIdx k l.length).bind (l[·]?)) (fun v => .ok v σ) else .stuck
noncomputable def subObj (n : Nat) (i : PV) (σ : Hp) : Res PV := match i with
  | .int k => onSome .stuck (seqAt σ n) fun l => getL l k σ
  | .str x => onSome .stuck (dictAt σ n) fun l => onSome .stuck (getKey x l) fun v => .ok v σ
  | _ => .stuck
noncomputable def subV (a i : PV) (σ : Hp) : Res PV := match a with
  | .tup l => onInt .stuck i fun k => getL l k σ
  | .str s => onInt .stuck i fun k => if k.natAbs ≤ 1000000000000 then onSome .stuck ((pyIdx k s.length).bind (s.toList[·]?)) fun c => .ok (.str (String.singleton c)) σ else .stuck
  | .obj n => subObj n i σ
  | _ => .stuck

/-- of a tuple: a run within it that ends ahead of its end -/
noncomputable def cutV (l : List PV) (lo hi : Nat) (σ : Hp) : Res PV := if lo ≤ hi ∧ hi < l.length then .ok (.tup ((l.take hi).drop lo)) σ else .stuck
noncomputable def sliceV (a : PV) (lo : Nat) (hi : Option Nat) (σ : Hp) : Res PV := match a with
  | .obj n => (match listAt σ n with
    | some l => newObj (.list ((match hi with | some h => l.take h | Option.none => l).drop lo)) σ
    | Option.none => .stuck)
  | _ => .stuck
noncomputable def natOf (v : PV) : Option Nat := match v with
  | .int k => if 0 ≤ k ∧ k.natAbs ≤ 1000000000000 then some k.toNat else Option.none
  | _ => Option.none

noncomputable def truth (v : PV) : Option Bool := match v with
  | .bool b => some b
  | _ => Option.none

noncomputable def testR (r : Res PV) : Res Bool := r.bind fun v σ => match truth v with
  | some b => .ok b σ
  | Option.none => .stuck

noncomputable def attrV (a : PV) (x : String) (σ : Hp) : Res PV := match a with
  | .obj n => (match instAt σ n with
    | some l => (match getKey x l with
      | some v => .ok v σ
      | Option.none => .stuck)
    | Option.none => .stuck)
  | _ => .stuck
noncomputable def setAttrV (a : PV) (x : String) (v : PV) (σ : Hp) : Res Unit := match a with
  | .obj n => (match instAt σ n with
    | some l => if l.length ≤ 100 then .ok () (σ.set n (.inst (putKey x v l))) else .stuck
    | Option.none => .stuck)
  | _ => .stuck
noncomputable def setItemV (a : PV) (x : String) (v : PV) (σ : Hp) : Res Unit := match a with
  | .obj n => (match dictAt σ n with
    | some l => if (getKey x l).isSome then .ok () (σ.set n (.dict (putKey x v l))) else .stuck
    | Option.none => .stuck)
  | _ => .stuck
noncomputable def appendV (a v : PV) (σ : Hp) : Res PV := match a with
  | .obj n => (match listAt σ n with
    | some l => if l.length ≤ 100000 then .ok .none (σ.set n (.list (l ++ [v]))) else .stuck
    | Option.none => .stuck)
  | _ => .stuck
noncomputable def popV (a : PV) (σ : Hp) : Res PV := match a with
  | .obj n => (match listAt σ n with
    | some l => (match l.getLast? with
      | some v => .ok v (σ.set n (.list l.dropLast))
      | Option.none => .stuck)
    | Option.none => .stuck)
  | _ => .stuck
noncomputable def lenV (a : PV) (σ : Hp) : Res PV := match a with
  | .tup l => .ok (.int l.length) σ
  | .obj n => (match seqAt σ n with
    | some l => .ok (.int l.length) σ
    | Option.none => .stuck)
  | _ => .stuck
noncomputable def listOfV (a : PV) (σ : Hp) : Res PV := match a with
  | .obj n => (match listAt σ n with
    | some l => newObj (.list l) σ
    | Option.none => .stuck)
  | _ => .stuck
noncomputable def tupleOfV (a : PV) (σ : Hp) : Res PV := match a with
  | .obj n => (match listAt σ n with
    | some l => .ok (.tup l) σ
    | Option.none => .stuck)
  | _ => .stuck

noncomputable def notNoneV (v : PV) : Bool := match v with
  | .none => false
  | _ => true

noncomputable def argsOf (v : PV) : List PV := match v with
  | .tup l => l
  | _ => []

noncomputable def newV (cf : CF) (v : PV) (σ : Hp) : Res PV := (cf ".__init__" [.obj σ.length, v] (σ ++ [.inst []])).bind fun r σ' => match r with
  | .none => .ok (.obj σ.length) σ'
  | _ => .stuck
noncomputable def isListV (v : PV) (σ : Hp) : Bool := match v with
  | .obj n => (listAt σ n).isSome
  | _ => false

noncomputable def ev (cf : CF) (sc : Option (List Int)) : PE → Loc → Hp → Res PV
  | .none, _, σ => .ok .none σ
  | .bool b, _, σ => .ok (.bool b) σ
  | .int i, _, σ => .ok (.int i) σ
  | .str s, _, σ => .ok (.str s) σ
  | .loc x, ρ, σ => match ρ x with
    | some v => .ok v σ
    | Option.none => .stuck
  | .gint x, _, σ => match gintT x with
    | some i => .ok (.int i) σ
    | Option.none => .stuck
  | .bin op a b, ρ, σ => (ev cf sc a ρ σ).bind fun x σ => (ev cf sc b ρ σ).bind fun y σ => binV op x y σ
  | .cmp op a b, ρ, σ => (ev cf sc a ρ σ).bind fun x σ => (ev cf sc b ρ σ).bind fun y σ => cmpV op x y σ
  | .isin neg a b, ρ, σ => (ev cf sc a ρ σ).bind fun x σ => (ev cf sc b ρ σ).bind fun y σ => match y with
    | .tup l => (match inL x l with
      | some r => .ok (.bool (r != neg)) σ
      | Option.none => .stuck)
    | _ => .stuck
  | .inG x a, ρ, σ => (ev cf sc a ρ σ).bind fun v σ => match gtup x, gdict x, v with
    | some l, _, v => (match inL v l with
      | some r => .ok (.bool r) σ
      | Option.none => .stuck)
    | Option.none, some d, .str k => .ok (.bool (getKey k d).isSome) σ
    | _, _, _ => .stuck
  | .notNone a, ρ, σ => (ev cf sc a ρ σ).bind fun v σ => .ok (.bool (notNoneV v)) σ
  | .and a b, ρ, σ => (testR (ev cf sc a ρ σ)).bind fun t σ => if t then ev cf sc b ρ σ else .ok (.bool false) σ
  | .or a b, ρ, σ => (testR (ev cf sc a ρ σ)).bind fun t σ => if t then .ok (.bool true) σ else ev cf sc b ρ σ
  | .not a, ρ, σ => (testR (ev cf sc a ρ σ)).bind fun t σ => .ok (.bool (!t)) σ
  | .ite c a b, ρ, σ => (testR (ev cf sc c ρ σ)).bind fun t σ => if t then ev cf sc a ρ σ else ev cf sc b ρ σ
  | .anil, _, σ => .ok (.tup []) σ
  | .acons a b, ρ, σ => (ev cf sc a ρ σ).bind fun v σ => (ev cf sc b ρ σ).bind fun vs σ => .ok (.tup (v :: argsOf vs)) σ
  | .list as, ρ, σ => (ev cf sc as ρ σ).bind fun vs σ => if (argsOf vs).length ≤ 100000 then newObj (.list (argsOf vs)) σ else .stuck
  | .tup as, ρ, σ => (ev cf sc as ρ σ).bind fun vs σ => if (argsOf vs).length ≤ 100000 then .ok (.tup (argsOf vs)) σ else .stuck
  | .dict ks as, ρ, σ => (ev cf sc as ρ σ).bind fun vs σ => newObj (.dict (ks.zip (argsOf vs))) σ
  | .sub a i, ρ, σ => (ev cf sc a ρ σ).bind fun x σ => (ev cf sc i ρ σ).bind fun y σ => subV x y σ
  | .sliceTo a hi, ρ, σ => (ev cf sc a ρ σ).bind fun x σ => (ev cf sc hi ρ σ).bind fun h σ => match x, natOf h with
    | .obj n, some h => sliceV (.obj n) 0 (some h) σ
    | .tup l, some h => cutV l 0 h σ
    | _, _ => .stuck
  | .sliceFrom a lo, ρ, σ => (ev cf sc a ρ σ).bind fun x σ => (ev cf sc lo ρ σ).bind fun l σ => match x, natOf l with
    | .obj n, some l => sliceV (.obj n) l Option.none σ
    | _, _ => .stuck
  | .slice2 a lo hi, ρ, σ => (ev cf sc a ρ σ).bind fun x σ => (ev cf sc lo ρ σ).bind fun l σ => (ev cf sc hi ρ σ).bind fun h σ => match x, natOf l, natOf h with
    | .tup t, some l, some h => cutV t l h σ
    | _, _, _ => .stuck
  | .attr a x, ρ, σ => (ev cf sc a ρ σ).bind fun v σ => attrV v x σ
  | .gget x a d, ρ, σ => (ev cf sc a ρ σ).bind fun k σ => (ev cf sc d ρ σ).bind fun dv σ => match gdict x, k with
    | some t, .str k => .ok ((getKey k t).getD dv) σ
    | _, _ => .stuck
  | .gitem x a, ρ, σ => (ev cf sc a ρ σ).bind fun k σ => match gdict x, k with
    | some t, .str k => (match getKey k t with
      | some v => .ok v σ
      | Option.none => .stuck)
    | _, _ => .stuck
  | .call f as, ρ, σ => (ev cf sc as ρ σ).bind fun vs σ => cf f (argsOf vs) σ
  | .meth o f as, ρ, σ => (ev cf sc o ρ σ).bind fun ov σ => match ov with
    | .obj n => (match instAt σ n with
      | some l => if (getKey f l).isNone then (ev cf sc as ρ σ).bind fun vs σ => cf ("." ++ f) (ov :: argsOf vs) σ else .stuck
      | Option.none => .stuck)
    | _ => .stuck
  | .new a, ρ, σ => (ev cf sc a ρ σ).bind fun v σ => newV cf v σ
  | .append o v, ρ, σ => (ev cf sc o ρ σ).bind fun ov σ => if isListV ov σ then (ev cf sc v ρ σ).bind fun x σ => appendV ov x σ else .stuck
  | .pop o, ρ, σ => (ev cf sc o ρ σ).bind fun ov σ => popV ov σ
  | .len a, ρ, σ => (ev cf sc a ρ σ).bind fun v σ => lenV v σ
  | .listOf a, ρ, σ => (ev cf sc a ρ σ).bind fun v σ => listOfV v σ
  | .tupleOf a, ρ, σ => (ev cf sc a ρ σ).bind fun v σ => tupleOfV v σ
  | .cells lim md, _, σ => match sc with
    | some ns => newObj (.rlist ((ns.take lim).map fun i => .int (Int.fmod (i.natAbs : Int) md))) σ
    | Option.none => .stuck

inductive Fl where
  | next | brk | ret (v : PV)
  deriving Inhabited

noncomputable def Loc.setAll (ρ : Loc) : List String → List PV → Loc
  | x :: xs, v :: vs => (ρ.set x v).setAll xs vs
  | _, _ => ρ

noncomputable def rangeOf (vs : List PV) : Option (List Int) := match vs with
  | [n] => onInt Option.none n fun n => if n.natAbs ≤ 100000 then some ((List.range n.toNat).map fun (k : Nat) => (k : Int)) else Option.none
  | [a, b, c] => onInt Option.none a fun a => onInt Option.none b fun b => onInt Option.none c fun c => if b = -1 ∧ c = -1 ∧ a.natAbs ≤ 100000 then some ((List.range (a + 1).toNat).map fun (k : Nat) => a - (k : Int)) else Option.none
  | _ => Option.none

noncomputable abbrev SR := Loc → Hp → Res (Fl × Loc)

noncomputable def thenK (r : Res (Fl × Loc)) (k : SR) : Res (Fl × Loc) := r.bind fun p σ => match p.1 with
  | .next => k p.2 σ
  | f => .ok (f, p.2) σ

noncomputable def loopW (test : Loc → Hp → Res Bool) (body : SR) : Nat → SR
  | 0, _, _ => .stuck
  | n + 1, ρ, σ => (test ρ σ).bind fun t σ => if t then
      (body ρ σ).bind fun p σ => match p.1 with
        | .next => loopW test body n p.2 σ
        | .brk => .ok (.next, p.2) σ
        | .ret v => .ok (.ret v, p.2) σ
    else .ok (.next, ρ) σ

noncomputable def loopL (x : String) (body : SR) : List PV → SR
  | [], ρ, σ => .ok (.next, ρ) σ
  | v :: r, ρ, σ => (body (ρ.set x v) σ).bind fun p σ => match p.1 with
      | .next => loopL x body r p.2 σ
      | .brk => .ok (.next, p.2) σ
      | .ret v => .ok (.ret v, p.2) σ

/-- over a list that stands on the heap, as it stands at each turn -/
noncomputable def loopI (x : String) (o : Nat) (body : SR) : Nat → Nat → SR
  | 0, _, _, _ => .stuck
  | n + 1, i, ρ, σ => match listAt σ o with
    | Option.none => .stuck
    | some l => match l[i]? with
      | Option.none => .ok (.next, ρ) σ
      | some v => (body (ρ.set x v) σ).bind fun p σ => match p.1 with
        | .next => loopI x o body n (i + 1) p.2 σ
        | .brk => .ok (.next, p.2) σ
        | .ret v => .ok (.ret v, p.2) σ

/-- a value handed back, a fault's two fields else -/
noncomputable def tryR (r : Res PV) (ρ : Loc) : Res (Fl × Loc) := match r with
  | .stuck => .stuck
  | .ok v σ => .ok (.ret v, ρ) σ
  | .err t i σ => .ok (.ret (.tup [.str t, .int i]), Loc.empty) σ

noncomputable def ex (cf : CF) (sc : Option (List Int)) (w : Nat) : PB → Loc → Hp → Res (Fl × Loc)
  | .nil, ρ, σ => .ok (.next, ρ) σ
  | .expr e k, ρ, σ => (ev cf sc e ρ σ).bind fun _ σ => ex cf sc w k ρ σ
  | .asg x e k, ρ, σ => (ev cf sc e ρ σ).bind fun v σ => ex cf sc w k (ρ.set x v) σ
  | .asgT xs e k, ρ, σ => (ev cf sc e ρ σ).bind fun v σ => match v with
    | .tup l => if l.length = xs.length then ex cf sc w k (ρ.setAll xs l) σ else .stuck
    | _ => .stuck
  | .asgAttr o a e k, ρ, σ => (ev cf sc e ρ σ).bind fun v σ => (ev cf sc o ρ σ).bind fun ov σ => (setAttrV ov a v σ).bind fun _ σ => ex cf sc w k ρ σ
  | .asgItem o x e k, ρ, σ => (ev cf sc e ρ σ).bind fun v σ => (ev cf sc o ρ σ).bind fun ov σ => (setItemV ov x v σ).bind fun _ σ => ex cf sc w k ρ σ
  | .augLoc x op e k, ρ, σ => match ρ x with
    | some a => (ev cf sc e ρ σ).bind fun b σ => (augV op a b σ).bind fun v σ => ex cf sc w k (ρ.set x v) σ
    | Option.none => .stuck
  | .augAttr o a op e k, ρ, σ => (ev cf sc o ρ σ).bind fun ov σ => (attrV ov a σ).bind fun x σ => (ev cf sc e ρ σ).bind fun y σ => (augV op x y σ).bind fun v σ => (setAttrV ov a v σ).bind fun _ σ => ex cf sc w k ρ σ
  | .ifS c a b k, ρ, σ => (testR (ev cf sc c ρ σ)).bind fun t σ => thenK (if t then ex cf sc w a ρ σ else ex cf sc w b ρ σ) (ex cf sc w k)
  | .whileS c b k, ρ, σ => thenK (loopW (fun ρ σ => testR (ev cf sc c ρ σ)) (ex cf sc w b) w ρ σ) (ex cf sc w k)
  | .forR x as b k, ρ, σ => (ev cf sc as ρ σ).bind fun vs σ => match rangeOf (argsOf vs) with
    | some l => thenK (loopL x (ex cf sc w b) (l.map .int) ρ σ) (ex cf sc w k)
    | Option.none => .stuck
  | .forL x e b k, ρ, σ => (ev cf sc e ρ σ).bind fun v σ => match v with
    | .obj n => thenK (loopI x n (ex cf sc w b) w 0 ρ σ) (ex cf sc w k)
    | _ => .stuck
  | .ret e _, ρ, σ => (ev cf sc e ρ σ).bind fun v σ => .ok (.ret v, ρ) σ
  | .raise e1 e2 _, ρ, σ => (ev cf sc e1 ρ σ).bind fun a σ => (ev cf sc e2 ρ σ).bind fun b σ => match a, b with
    | .str t, .int i => .err t i σ
    | _, _ => .stuck
  | .tryRet e _, ρ, σ => tryR (ev cf sc e ρ σ) ρ
  | .brk _, ρ, σ => .ok (.brk, ρ) σ

noncomputable def retOf (f : Fl) : PV := match f with
  | .ret v => v
  | _ => .none

noncomputable def bindL : List String → List PV → Option Loc
  | [], [] => some Loc.empty
  | x :: xs, v :: vs => (bindL xs vs).map fun ρ => ρ.set x v
  | _, _ => Option.none

/-- a call, `n` calls deep at most, loops of `w` turns at most -/
noncomputable def callN (tbl : String → Option FnDef) (w : Nat) : Nat → CF
  | 0, _, _, _ => .stuck
  | n + 1, f, vs, σ => match tbl f with
    | Option.none => .stuck
    | some d => match bindL d.params vs with
      | Option.none => .stuck
      | some ρ => (ex (callN tbl w n) Option.none w d.body ρ σ).bind fun p σ => .ok (retOf p.1) σ

end Mine
end
section
/-! The check that a term of the model's syntax is the small syntax's term. -/
open PySem
namespace Mine

structure Ck where
  names : List (Str × NameKind)
  fns : List String
  ms : List String

noncomputable def Ck.isLoc (k : Ck) (y : Str) (x : String) : Bool := y == Str.ofString x && k.names.lookup y == some .local && !(y == ("__debug__" : Str))
noncomputable def Ck.isGlob (k : Ck) (y : Str) (x : String) : Bool := y == Str.ofString x && k.names.lookup y == some .globalImplicit && !(y == ("__debug__" : Str))

noncomputable def opE : AOp → Operator
  | .add => .Add | .sub => .Sub | .mul => .Mult | .fdiv => .FloorDiv | .mod => .Mod
noncomputable def copE : COp → CmpOp
  | .eq => .Eq | .ne => .NotEq | .lt => .Lt | .le => .LtE | .gt => .Gt | .ge => .GtE

/-! views: what a term is, with the proof that it is that -/
theorem and_el {a b : Bool} {P : Prop} (h : (a && b) = true) (g : a = true → b = true → P) : P := g (Bool.and_eq_true_iff.mp h).1 (Bool.and_eq_true_iff.mp h).2
@[elab_as_elim] theorem beq_el {α : Type} [BEq α] [LawfulBEq α] {a b : α} {P : α → Prop} (h : (a == b) = true) (g : P b) : P a := by rw [beq_iff_eq.mp h]; exact g
noncomputable def vok {α : Type} {P : α → Prop} (o : Option {a // P a}) (f : α → Bool) : Bool := match o with
  | some q => f q.1
  | none => false
theorem vok_inv {α : Type} {P : α → Prop} {o : Option {a // P a}} {f : α → Bool} (h : vok o f = true) : ∃ a, P a ∧ f a = true := by
  cases o with
  | none => exact nomatch h
  | some q => exact ⟨q.1, q.2, h⟩

noncomputable def vConst : (x : PySem.Expr) → Option {q : Const × Nat × Pos // x = .Constant q.1 q.2.1 q.2.2}
  | .Constant c k p => some ⟨(c, k, p), rfl⟩
  | _ => none
noncomputable def vName : (x : PySem.Expr) → Option {q : Str × Pos // x = .Name q.1 q.2}
  | .Name y p => some ⟨(y, p), rfl⟩
  | _ => none
noncomputable def vBin : (x : PySem.Expr) → Option {q : PySem.Expr × Operator × PySem.Expr × Pos // x = .BinOp q.1 q.2.1 q.2.2.1 q.2.2.2}
  | .BinOp l o r p => some ⟨(l, o, r, p), rfl⟩
  | _ => none
noncomputable def vCmp : (x : PySem.Expr) → Option {q : PySem.Expr × CmpOp × PySem.Expr × Pos // x = .Compare q.1 [q.2.1] [q.2.2.1] q.2.2.2}
  | .Compare l [o] [r] p => some ⟨(l, o, r, p), rfl⟩
  | _ => none
noncomputable def vBoolOp : (x : PySem.Expr) → Option {q : BoolOp × List PySem.Expr × Pos // x = .BoolOp q.1 q.2.1 q.2.2}
  | .BoolOp o vs p => some ⟨(o, vs, p), rfl⟩
  | _ => none
noncomputable def vUn : (x : PySem.Expr) → Option {q : UnaryOp × PySem.Expr × Pos // x = .UnaryOp q.1 q.2.1 q.2.2}
  | .UnaryOp o x p => some ⟨(o, x, p), rfl⟩
  | _ => none
noncomputable def vIf : (x : PySem.Expr) → Option {q : PySem.Expr × PySem.Expr × PySem.Expr × Pos // x = .IfExp q.1 q.2.1 q.2.2.1 q.2.2.2}
  | .IfExp l o r p => some ⟨(l, o, r, p), rfl⟩
  | _ => none
noncomputable def vList : (x : PySem.Expr) → Option {q : List PySem.Expr × Pos // x = .List q.1 q.2}
  | .List es p => some ⟨(es, p), rfl⟩
  | _ => none
noncomputable def vTuple : (x : PySem.Expr) → Option {q : List PySem.Expr × Nat × Pos // x = .Tuple q.1 q.2.1 q.2.2}
  | .Tuple es k p => some ⟨(es, k, p), rfl⟩
  | _ => none
noncomputable def vDict : (x : PySem.Expr) → Option {q : List (Option PySem.Expr) × List PySem.Expr × Pos // x = .Dict q.1 q.2.1 q.2.2}
  | .Dict ks vs p => some ⟨(ks, vs, p), rfl⟩
  | _ => none
noncomputable def vSubs : (x : PySem.Expr) → Option {q : PySem.Expr × PySem.Expr × Pos // x = .Subscript q.1 q.2.1 q.2.2}
  | .Subscript v s p => some ⟨(v, s, p), rfl⟩
  | _ => none
noncomputable def vSlice : (x : PySem.Expr) → Option {q : Option PySem.Expr × Option PySem.Expr × Option PySem.Expr × Pos // x = .Slice q.1 q.2.1 q.2.2.1 q.2.2.2}
  | .Slice a b c p => some ⟨(a, b, c, p), rfl⟩
  | _ => none
noncomputable def vAttr : (x : PySem.Expr) → Option {q : PySem.Expr × Str × Pos // x = .Attribute q.1 q.2.1 q.2.2}
  | .Attribute v y p => some ⟨(v, y, p), rfl⟩
  | _ => none
noncomputable def vCall : (x : PySem.Expr) → Option {q : PySem.Expr × List PySem.Expr × Pos // x = .Call q.1 q.2.1 [] q.2.2}
  | .Call g es [] p => some ⟨(g, es, p), rfl⟩
  | _ => none
noncomputable def vLC : (x : PySem.Expr) → Option {q : PySem.Expr × List Comprehension × Scope × Pos // x = .ListComp q.1 q.2.1 q.2.2.1 q.2.2.2}
  | .ListComp e g s p => some ⟨(e, g, s, p), rfl⟩
  | _ => none
noncomputable def kConst (x : PySem.Expr) (c : Const) : Bool := vok (vConst x) fun q => q.1 == c
theorem kConst_inv {x : PySem.Expr} {c : Const} (h : kConst x c = true) : ∃ k p, x = .Constant c k p := by
  obtain ⟨⟨d, k, p⟩, h1, h2⟩ := vok_inv h
  exact ⟨k, p, h1.trans (congrArg (Expr.Constant · k p) (beq_iff_eq.mp h2))⟩
@[elab_as_elim] theorem kConst_el {x : PySem.Expr} {c : Const} {P : PySem.Expr → Prop} (h : kConst x c = true) (g : ∀ k p, P (.Constant c k p)) : P x := by
  obtain ⟨k, p, e⟩ := kConst_inv h
  rw [e]; exact g _ _
noncomputable def kName (x : PySem.Expr) (f : Str → Bool) : Bool := vok (vName x) fun q => f q.1
theorem kName_inv {x : PySem.Expr} {f : Str → Bool} (h : kName x f = true) : ∃ y p, x = .Name y p ∧ f y = true := by
  obtain ⟨⟨y, p⟩, h1, h2⟩ := vok_inv h
  exact ⟨y, p, h1, h2⟩
@[elab_as_elim] theorem kName_el {x : PySem.Expr} {f : Str → Bool} {P : PySem.Expr → Prop} (h : kName x f = true) (g : ∀ y p, f y = true → P (.Name y p)) : P x := by
  obtain ⟨y, p, e, h0⟩ := kName_inv h
  rw [e]; exact g _ _ h0
noncomputable def kBin (x : PySem.Expr) (f : PySem.Expr → Operator → PySem.Expr → Bool) : Bool := vok (vBin x) fun q => f q.1 q.2.1 q.2.2.1
theorem kBin_inv {x : PySem.Expr} {f : PySem.Expr → Operator → PySem.Expr → Bool} (h : kBin x f = true) : ∃ l o r p, x = .BinOp l o r p ∧ f l o r = true := by
  obtain ⟨⟨l, o, r, p⟩, h1, h2⟩ := vok_inv h
  exact ⟨l, o, r, p, h1, h2⟩
@[elab_as_elim] theorem kBin_el {x : PySem.Expr} {f : PySem.Expr → Operator → PySem.Expr → Bool} {P : PySem.Expr → Prop} (h : kBin x f = true) (g : ∀ l o r p, f l o r = true → P (.BinOp l o r p)) : P x := by
  obtain ⟨l, o, r, p, e, h0⟩ := kBin_inv h
  rw [e]; exact g _ _ _ _ h0
noncomputable def kCmp (x : PySem.Expr) (f : PySem.Expr → CmpOp → PySem.Expr → Bool) : Bool := vok (vCmp x) fun q => f q.1 q.2.1 q.2.2.1
theorem kCmp_inv {x : PySem.Expr} {f : PySem.Expr → CmpOp → PySem.Expr → Bool} (h : kCmp x f = true) : ∃ l o r p, x = .Compare l [o] [r] p ∧ f l o r = true := by
  obtain ⟨⟨l, o, r, p⟩, h1, h2⟩ := vok_inv h
  exact ⟨l, o, r, p, h1, h2⟩
@[elab_as_elim] theorem kCmp_el {x : PySem.Expr} {f : PySem.Expr → CmpOp → PySem.Expr → Bool} {P : PySem.Expr → Prop} (h : kCmp x f = true) (g : ∀ l o r p, f l o r = true → P (.Compare l [o] [r] p)) : P x := by
  obtain ⟨l, o, r, p, e, h0⟩ := kCmp_inv h
  rw [e]; exact g _ _ _ _ h0
noncomputable def kBoolOp (x : PySem.Expr) (f : BoolOp → List PySem.Expr → Bool) : Bool := vok (vBoolOp x) fun q => f q.1 q.2.1
theorem kBoolOp_inv {x : PySem.Expr} {f : BoolOp → List PySem.Expr → Bool} (h : kBoolOp x f = true) : ∃ o vs p, x = .BoolOp o vs p ∧ f o vs = true := by
  obtain ⟨⟨o, vs, p⟩, h1, h2⟩ := vok_inv h
  exact ⟨o, vs, p, h1, h2⟩
noncomputable def kUn (x : PySem.Expr) (f : UnaryOp → PySem.Expr → Bool) : Bool := vok (vUn x) fun q => f q.1 q.2.1
theorem kUn_inv {x : PySem.Expr} {f : UnaryOp → PySem.Expr → Bool} (h : kUn x f = true) : ∃ o y p, x = .UnaryOp o y p ∧ f o y = true := by
  obtain ⟨⟨o, y, p⟩, h1, h2⟩ := vok_inv h
  exact ⟨o, y, p, h1, h2⟩
@[elab_as_elim] theorem kUn_el {x : PySem.Expr} {f : UnaryOp → PySem.Expr → Bool} {P : PySem.Expr → Prop} (h : kUn x f = true) (g : ∀ o y p, f o y = true → P (.UnaryOp o y p)) : P x := by
  obtain ⟨o, y, p, e, h0⟩ := kUn_inv h
  rw [e]; exact g _ _ _ h0
noncomputable def kIf (x : PySem.Expr) (f : PySem.Expr → PySem.Expr → PySem.Expr → Bool) : Bool := vok (vIf x) fun q => f q.1 q.2.1 q.2.2.1
theorem kIf_inv {x : PySem.Expr} {f : PySem.Expr → PySem.Expr → PySem.Expr → Bool} (h : kIf x f = true) : ∃ l o r p, x = .IfExp l o r p ∧ f l o r = true := by
  obtain ⟨⟨l, o, r, p⟩, h1, h2⟩ := vok_inv h
  exact ⟨l, o, r, p, h1, h2⟩
@[elab_as_elim] theorem kIf_el {x : PySem.Expr} {f : PySem.Expr → PySem.Expr → PySem.Expr → Bool} {P : PySem.Expr → Prop} (h : kIf x f = true) (g : ∀ l o r p, f l o r = true → P (.IfExp l o r p)) : P x := by
  obtain ⟨l, o, r, p, e, h0⟩ := kIf_inv h
  rw [e]; exact g _ _ _ _ h0
noncomputable def kList (x : PySem.Expr) (f : List PySem.Expr → Bool) : Bool := vok (vList x) fun q => f q.1
theorem kList_inv {x : PySem.Expr} {f : List PySem.Expr → Bool} (h : kList x f = true) : ∃ es p, x = .List es p ∧ f es = true := by
  obtain ⟨⟨es, p⟩, h1, h2⟩ := vok_inv h
  exact ⟨es, p, h1, h2⟩
@[elab_as_elim] theorem kList_el {x : PySem.Expr} {f : List PySem.Expr → Bool} {P : PySem.Expr → Prop} (h : kList x f = true) (g : ∀ es p, f es = true → P (.List es p)) : P x := by
  obtain ⟨es, p, e, h0⟩ := kList_inv h
  rw [e]; exact g _ _ h0
noncomputable def kTuple (x : PySem.Expr) (f : List PySem.Expr → Bool) : Bool := vok (vTuple x) fun q => f q.1
theorem kTuple_inv {x : PySem.Expr} {f : List PySem.Expr → Bool} (h : kTuple x f = true) : ∃ es k p, x = .Tuple es k p ∧ f es = true := by
  obtain ⟨⟨es, k, p⟩, h1, h2⟩ := vok_inv h
  exact ⟨es, k, p, h1, h2⟩
@[elab_as_elim] theorem kTuple_el {x : PySem.Expr} {f : List PySem.Expr → Bool} {P : PySem.Expr → Prop} (h : kTuple x f = true) (g : ∀ es k p, f es = true → P (.Tuple es k p)) : P x := by
  obtain ⟨es, k, p, e, h0⟩ := kTuple_inv h
  rw [e]; exact g _ _ _ h0
noncomputable def kDict (x : PySem.Expr) (f : List (Option PySem.Expr) → List PySem.Expr → Bool) : Bool := vok (vDict x) fun q => f q.1 q.2.1
theorem kDict_inv {x : PySem.Expr} {f : List (Option PySem.Expr) → List PySem.Expr → Bool} (h : kDict x f = true) : ∃ ks vs p, x = .Dict ks vs p ∧ f ks vs = true := by
  obtain ⟨⟨ks, vs, p⟩, h1, h2⟩ := vok_inv h
  exact ⟨ks, vs, p, h1, h2⟩
@[elab_as_elim] theorem kDict_el {x : PySem.Expr} {f : List (Option PySem.Expr) → List PySem.Expr → Bool} {P : PySem.Expr → Prop} (h : kDict x f = true) (g : ∀ ks vs p, f ks vs = true → P (.Dict ks vs p)) : P x := by
  obtain ⟨ks, vs, p, e, h0⟩ := kDict_inv h
  rw [e]; exact g _ _ _ h0
noncomputable def kSubs (x : PySem.Expr) (f : PySem.Expr → PySem.Expr → Bool) : Bool := vok (vSubs x) fun q => f q.1 q.2.1
theorem kSubs_inv {x : PySem.Expr} {f : PySem.Expr → PySem.Expr → Bool} (h : kSubs x f = true) : ∃ v s p, x = .Subscript v s p ∧ f v s = true := by
  obtain ⟨⟨v, s, p⟩, h1, h2⟩ := vok_inv h
  exact ⟨v, s, p, h1, h2⟩
@[elab_as_elim] theorem kSubs_el {x : PySem.Expr} {f : PySem.Expr → PySem.Expr → Bool} {P : PySem.Expr → Prop} (h : kSubs x f = true) (g : ∀ v s p, f v s = true → P (.Subscript v s p)) : P x := by
  obtain ⟨v, s, p, e, h0⟩ := kSubs_inv h
  rw [e]; exact g _ _ _ h0
/-- an end of a slice: none, or what is held against it -/
noncomputable def kEnd (o : Option PySem.Expr) (f : Option (PySem.Expr → Bool)) : Bool := match o, f with
  | none, none => true
  | some e, some f => f e
  | _, _ => false
theorem kEnd_none {o : Option PySem.Expr} (h : kEnd o none = true) : o = none := by
  cases o with
  | none => rfl
  | some _ => exact nomatch h
theorem kEnd_some {o : Option PySem.Expr} {f : PySem.Expr → Bool} (h : kEnd o (some f) = true) : ∃ e, o = some e ∧ f e = true := by
  cases o with
  | none => exact nomatch h
  | some e => exact ⟨e, rfl, h⟩
noncomputable def kSlice (x : PySem.Expr) (f g : Option (PySem.Expr → Bool)) : Bool := vok (vSlice x) fun q => kEnd q.1 f && kEnd q.2.1 g && kEnd q.2.2.1 none
theorem kSlice_inv {x : PySem.Expr} {f g : Option (PySem.Expr → Bool)} (h : kSlice x f g = true) : ∃ a b p, x = .Slice a b none p ∧ kEnd a f = true ∧ kEnd b g = true := by
  obtain ⟨⟨a, b, c, p⟩, h1, h2⟩ := vok_inv h
  obtain ⟨h2, h3⟩ := Bool.and_eq_true_iff.mp h2
  exact ⟨a, b, p, h1.trans (congrArg (Expr.Slice a b · p) (kEnd_none h3)), Bool.and_eq_true_iff.mp h2⟩
noncomputable def kAttr (x : PySem.Expr) (f : PySem.Expr → Str → Pos → Bool) : Bool := vok (vAttr x) fun q => f q.1 q.2.1 q.2.2
theorem kAttr_inv {x : PySem.Expr} {f : PySem.Expr → Str → Pos → Bool} (h : kAttr x f = true) : ∃ v y p, x = .Attribute v y p ∧ f v y p = true := by
  obtain ⟨⟨v, y, p⟩, h1, h2⟩ := vok_inv h
  exact ⟨v, y, p, h1, h2⟩
@[elab_as_elim] theorem kAttr_el {x : PySem.Expr} {f : PySem.Expr → Str → Pos → Bool} {P : PySem.Expr → Prop} (h : kAttr x f = true) (g : ∀ v y p, f v y p = true → P (.Attribute v y p)) : P x := by
  obtain ⟨v, y, p, e, h0⟩ := kAttr_inv h
  rw [e]; exact g _ _ _ h0
noncomputable def kCall (x : PySem.Expr) (f : PySem.Expr → List PySem.Expr → Pos → Bool) : Bool := vok (vCall x) fun q => f q.1 q.2.1 q.2.2
theorem kCall_inv {x : PySem.Expr} {f : PySem.Expr → List PySem.Expr → Pos → Bool} (h : kCall x f = true) : ∃ v y p, x = .Call v y [] p ∧ f v y p = true := by
  obtain ⟨⟨v, y, p⟩, h1, h2⟩ := vok_inv h
  exact ⟨v, y, p, h1, h2⟩
noncomputable def kLC (x : PySem.Expr) (f : PySem.Expr → List Comprehension → Scope → Bool) : Bool := vok (vLC x) fun q => f q.1 q.2.1 q.2.2.1
theorem kLC_inv {x : PySem.Expr} {f : PySem.Expr → List Comprehension → Scope → Bool} (h : kLC x f = true) : ∃ e g s p, x = .ListComp e g s p ∧ f e g s = true := by
  obtain ⟨⟨e, g, s, p⟩, h1, h2⟩ := vok_inv h
  exact ⟨e, g, s, p, h1, h2⟩
/-- one item -/
noncomputable def k1 {α : Type} (l : List α) (f : α → Bool) : Bool := match l with
  | [a] => f a
  | _ => false
theorem k1_inv {α : Type} {l : List α} {f : α → Bool} (h : k1 l f = true) : ∃ a, l = [a] ∧ f a = true := by
  cases l with
  | nil => exact nomatch h
  | cons a r => cases r with
    | nil => exact ⟨a, rfl, h⟩
    | cons _ _ => exact nomatch h
@[elab_as_elim] theorem k1_el {α : Type} {l : List α} {f : α → Bool} {P : List α → Prop} (h : k1 l f = true) (g : ∀ a, f a = true → P ([a])) : P l := by
  obtain ⟨a, e, h0⟩ := k1_inv h
  rw [e]; exact g _ h0
noncomputable def k2 {α : Type} (l : List α) (f : α → α → Bool) : Bool := match l with
  | [a, b] => f a b
  | _ => false
theorem k2_inv {α : Type} {l : List α} {f : α → α → Bool} (h : k2 l f = true) : ∃ a b, l = [a, b] ∧ f a b = true := by
  cases l with
  | nil => exact nomatch h
  | cons a r => cases r with
    | nil => exact nomatch h
    | cons b r => cases r with
      | nil => exact ⟨a, b, rfl, h⟩
      | cons _ _ => exact nomatch h
@[elab_as_elim] theorem k2_el {α : Type} {l : List α} {f : α → α → Bool} {P : List α → Prop} (h : k2 l f = true) (g : ∀ a b, f a b = true → P ([a, b])) : P l := by
  obtain ⟨a, b, e, h0⟩ := k2_inv h
  rw [e]; exact g _ _ h0
noncomputable def kCons {α : Type} (l : List α) (f : α → List α → Bool) : Bool := match l with
  | a :: r => f a r
  | _ => false
theorem kCons_inv {α : Type} {l : List α} {f : α → List α → Bool} (h : kCons l f = true) : ∃ a r, l = a :: r ∧ f a r = true := by
  cases l with
  | nil => exact nomatch h
  | cons a r => exact ⟨a, r, rfl, h⟩
@[elab_as_elim] theorem kCons_el {α : Type} {l : List α} {f : α → List α → Bool} {P : List α → Prop} (h : kCons l f = true) (g : ∀ a r, f a r = true → P (a :: r)) : P l := by
  obtain ⟨a, r, e, h0⟩ := kCons_inv h
  rw [e]; exact g _ _ h0
/-- a call of a global word -/
noncomputable def kCallN (x : PySem.Expr) (f : Str → List PySem.Expr → Bool) : Bool := kCall x fun g es _ => kName g fun y => f y es
theorem kCallN_inv {x : PySem.Expr} {f : Str → List PySem.Expr → Bool} (h : kCallN x f = true) : ∃ y q es p, x = .Call (.Name y q) es [] p ∧ f y es = true := by
  obtain ⟨g, es, p, rfl, h1⟩ := kCall_inv h
  obtain ⟨y, q, rfl, h2⟩ := kName_inv h1
  exact ⟨y, q, es, p, rfl, h2⟩
@[elab_as_elim] theorem kCallN_el {x : PySem.Expr} {f : Str → List PySem.Expr → Bool} {P : PySem.Expr → Prop} (h : kCallN x f = true) (g : ∀ y q es p, f y es = true → P (.Call (.Name y q) es [] p)) : P x := by
  obtain ⟨y, q, es, p, e, h0⟩ := kCallN_inv h
  rw [e]; exact g _ _ _ _ h0
/-- a call of a method: its own line told -/
noncomputable def kCallM (x : PySem.Expr) (f : PySem.Expr → Str → List PySem.Expr → Bool) : Bool := kCall x fun g es pos => kAttr g fun ob y apos => apos.endLine == pos.line && f ob y es
theorem kCallM_inv {x : PySem.Expr} {f : PySem.Expr → Str → List PySem.Expr → Bool} (h : kCallM x f = true) : ∃ ob y apos es pos, x = .Call (.Attribute ob y apos) es [] pos ∧ (apos.endLine == pos.line) = true ∧ f ob y es = true := by
  obtain ⟨g, es, p, rfl, h1⟩ := kCall_inv h
  obtain ⟨ob, y, apos, rfl, h2⟩ := kAttr_inv h1
  exact ⟨ob, y, apos, es, p, rfl, Bool.and_eq_true_iff.mp h2⟩
@[elab_as_elim] theorem kCallM_el {x : PySem.Expr} {f : PySem.Expr → Str → List PySem.Expr → Bool} {P : PySem.Expr → Prop} (h : kCallM x f = true) (g : ∀ ob y apos es pos, (apos.endLine == pos.line) = true → f ob y es = true → P (.Call (.Attribute ob y apos) es [] pos)) : P x := by
  obtain ⟨ob, y, apos, es, pos, e, h0, h1⟩ := kCallM_inv h
  rw [e]; exact g _ _ _ _ _ h0 h1

noncomputable def notSlice (x : PySem.Expr) : Bool := match x with
  | .Slice .. => false
  | _ => true
noncomputable def baseOk (x : PySem.Expr) : Bool := match x with
  | .Name .. | .Subscript .. | .Attribute .. => true
  | _ => false
noncomputable def plainE (x : PySem.Expr) : Bool := match x with
  | .Starred .. => false
  | _ => true
noncomputable def noSet (x : PySem.Expr) : Bool := match x with
  | .Set .. => false
  | _ => true
noncomputable def noComp (x : PySem.Expr) : Bool := match x with
  | .ListComp .. | .SetComp .. | .DictComp .. => false
  | _ => true

noncomputable def chkKeys : List String → List (Option PySem.Expr) → Bool
  | [], l => l.isEmpty
  | x :: xs, l => kCons l fun o es => kEnd o (some fun e => kConst e (.str (Str.ofString x))) && chkKeys xs es

theorem isEmpty_inv {α : Type} {l : List α} (h : l.isEmpty = true) : l = [] := by
  cases l with
  | nil => rfl
  | cons _ _ => exact nomatch h
theorem and2 {a b : Bool} (h : (a && b) = true) : a = true ∧ b = true := Bool.and_eq_true_iff.mp h
theorem chkKeys_nil {l : List (Option PySem.Expr)} (h : chkKeys [] l = true) : l = [] := isEmpty_inv h
theorem chkKeys_cons {x : String} {xs : List String} {l : List (Option PySem.Expr)} (h : chkKeys (x :: xs) l = true) : ∃ k p r, l = some (.Constant (.str (Str.ofString x)) k p) :: r ∧ chkKeys xs r = true := by
  obtain ⟨o, r, h1, h2⟩ := kCons_inv (l := l) (f := fun o es => kEnd o (some fun e => kConst e (.str (Str.ofString x))) && chkKeys xs es) h
  obtain ⟨h3, h4⟩ := and2 h2
  obtain ⟨e, h5, h6⟩ := kEnd_some h3
  obtain ⟨k, p, h7⟩ := kConst_inv h6
  subst h7 h5
  exact ⟨k, p, r, h1, h4⟩

noncomputable def attrNames : List String := ["tokens", "place", "depth"]

/-- what a small term is held against: a term, a list of terms, the values of and | or -/
inductive Tgt where
  | e (x : PySem.Expr)
  | a (l : List PySem.Expr)
  | b (op : BoolOp) (l : List PySem.Expr)
noncomputable def normT (op : BoolOp) (l : List PySem.Expr) : Tgt := match l with
  | [x] => .e x
  | l => .b op l
noncomputable def kE (t : Tgt) (f : PySem.Expr → Bool) : Bool := match t with
  | .e x => f x
  | _ => false
theorem kE_inv {t : Tgt} {f : PySem.Expr → Bool} (h : kE t f = true) : ∃ x, t = .e x ∧ f x = true := by
  cases t with
  | e x => exact ⟨x, rfl, h⟩
  | _ => exact nomatch h
@[elab_as_elim] theorem kE_el {t : Tgt} {f : PySem.Expr → Bool} {P : Tgt → Prop} (h : kE t f = true) (g : ∀ x, f x = true → P (.e x)) : P t := by
  obtain ⟨x, e, h0⟩ := kE_inv h
  rw [e]; exact g _ h0
noncomputable def kA (t : Tgt) (f : List PySem.Expr → Bool) : Bool := match t with
  | .a l => f l
  | _ => false
theorem kA_inv {t : Tgt} {f : List PySem.Expr → Bool} (h : kA t f = true) : ∃ l, t = .a l ∧ f l = true := by
  cases t with
  | a l => exact ⟨l, rfl, h⟩
  | _ => exact nomatch h
@[elab_as_elim] theorem kA_el {t : Tgt} {f : List PySem.Expr → Bool} {P : Tgt → Prop} (h : kA t f = true) (g : ∀ l, f l = true → P (.a l)) : P t := by
  obtain ⟨l, e, h0⟩ := kA_inv h
  rw [e]; exact g _ h0
/-- the values of and | or, as a term or as what is left of it -/
noncomputable def kB (t : Tgt) (op : BoolOp) (f : PySem.Expr → List PySem.Expr → Bool) : Bool := match t with
  | .e x => kBoolOp x fun o vs => o == op && kCons vs f
  | .b o vs => o == op && kCons vs f
  | _ => false
theorem kB_inv {t : Tgt} {op : BoolOp} {f : PySem.Expr → List PySem.Expr → Bool} (h : kB t op f = true) : ∃ v vs, f v vs = true ∧ ((∃ p, t = .e (.BoolOp op (v :: vs) p)) ∨ t = .b op (v :: vs)) := by
  cases t with
  | e x =>
    obtain ⟨o, l, p, rfl, h0⟩ := kBoolOp_inv (x := x) (f := fun o vs => o == op && kCons vs f) h
    obtain ⟨h1, h2⟩ := Bool.and_eq_true_iff.mp h0
    obtain ⟨v, vs, rfl, h3⟩ := kCons_inv h2
    obtain rfl := beq_iff_eq.mp h1
    exact ⟨v, vs, h3, .inl ⟨p, rfl⟩⟩
  | a => exact nomatch h
  | b o l =>
    obtain ⟨h1, h2⟩ := Bool.and_eq_true_iff.mp (show (o == op && kCons l f) = true from h)
    obtain ⟨v, vs, rfl, h3⟩ := kCons_inv h2
    obtain rfl := beq_iff_eq.mp h1
    exact ⟨v, vs, h3, .inr rfl⟩

noncomputable def chkCells (k : Ck) (lim : Nat) (md : Int) (x : PySem.Expr) : Bool :=
  kLC x fun e gs scope => (kBin e fun l o r => o == .Mod && kConst r (.int md) && kCallN l fun fa es => fa == Str.ofString "abs" && k1 es fun u => kName u (· == Str.ofString "cell")) &&
    (k1 gs fun g => g.ifs.isEmpty && g.is_async == 0 && kName g.target (· == Str.ofString "cell") && kSubs g.iter fun v s => (kName v (k.isLoc · "script")) && kSlice s none (some (kConst · (.int (lim : Int))))) &&
    decide (0 < md) && decide (lim ≤ 1000) &&
    scope.names == [(Str.ofString ".0", .local), (Str.ofString "cell", .local), (Str.ofString "abs", .globalImplicit)] && scope.kind == .function && !scope.isGenerator && !scope.isCoroutine

noncomputable def chk (k : Ck) : PE → Tgt → Bool
  | .none, t => kE t (kConst · .none)
  | .bool b, t => kE t (kConst · (.bool b))
  | .int i, t => kE t fun x => kConst x (.int i) || kUn x fun o y => o == .USub && kConst y (.int (-i))
  | .str x, t => kE t (kConst · (.str (Str.ofString x)))
  | .loc x, t => kE t (kName · (k.isLoc · x))
  | .gint x, t => kE t (kName · fun y => k.isGlob y x && (gintT x).isSome)
  | .bin op a b, t => kE t (kBin · fun l o r => o == opE op && chk k a (.e l) && chk k b (.e r))
  | .cmp op a b, t => kE t (kCmp · fun l o r => o == copE op && chk k a (.e l) && chk k b (.e r) && noSet r)
  | .isin neg a b, t => kE t (kCmp · fun l o r => (o == if neg then .NotIn else .In) && chk k a (.e l) && chk k b (.e r) && noSet r)
  | .inG x a, t => kE t (kCmp · fun l o r => o == .In && (kName r (k.isGlob · x)) && chk k a (.e l) && ((gtup x).isSome || (gdict x).isSome))
  | .notNone a, t => kE t (kCmp · fun l o r => o == .IsNot && kConst r .none && chk k a (.e l))
  | .and a b, t => kB t .And fun v vs => chk k a (.e v) && !vs.isEmpty && chk k b (normT .And vs)
  | .or a b, t => kB t .Or fun v vs => chk k a (.e v) && !vs.isEmpty && chk k b (normT .Or vs)
  | .not a, t => kE t (kUn · fun o x => o == .Not && chk k a (.e x))
  | .ite c a b, t => kE t (kIf · fun u x y => chk k c (.e u) && chk k a (.e x) && chk k b (.e y))
  | .anil, t => kA t (·.isEmpty)
  | .acons a b, t => kA t (kCons · fun e r => chk k a (.e e) && plainE e && chk k b (.a r))
  | .list as, t => kE t (kList · fun es => chk k as (.a es))
  | .tup as, t => kE t (kTuple · fun es => chk k as (.a es))
  | .dict ks as, t => kE t (kDict · fun keys vals => chkKeys ks keys && chk k as (.a vals) && decide (ks.length ≤ 15) && !ks.isEmpty && ks.length == vals.length && decide ks.Nodup)
  | .sub a i, t => kE t (kSubs · fun v s => chk k a (.e v) && chk k i (.e s) && notSlice s)
  | .sliceTo a hi, t => kE t (kSubs · fun v s => chk k a (.e v) && kSlice s none (some fun h => chk k hi (.e h)))
  | .sliceFrom a lo, t => kE t (kSubs · fun v s => chk k a (.e v) && kSlice s (some fun h => chk k lo (.e h)) none)
  | .slice2 a lo hi, t => kE t (kSubs · fun v s => chk k a (.e v) && kSlice s (some fun h => chk k lo (.e h)) (some fun h => chk k hi (.e h)))
  | .attr a x, t => kE t (kAttr · fun v y _ => y == Str.ofString x && attrNames.contains x && chk k a (.e v) && baseOk v)
  | .gget x a d, t => kE t (kCallM · fun ob g es => kName ob (k.isGlob · x) && g == Str.ofString "get" && (gdict x).isSome && k2 es fun u v => chk k a (.e u) && chk k d (.e v) && plainE u && plainE v)
  | .gitem x a, t => kE t (kSubs · fun v s => kName v (k.isGlob · x) && (gdict x).isSome && chk k a (.e s) && notSlice s)
  | .call g as, t => kE t (kCallN · fun y es => k.isGlob y g && k.fns.contains g && chk k as (.a es) && decide (es.length ≤ 20))
  | .meth o g as, t => kE t (kCallM · fun ob y es => y == Str.ofString g && k.ms.contains g && chk k o (.e ob) && baseOk ob && chk k as (.a es) && decide (es.length ≤ 20))
  | .new a, t => kE t (kCallN · fun y es => k.isGlob y "ExprParser" && k1 es fun u => chk k a (.e u) && plainE u)
  | .append o v, t => kE t (kCallM · fun ob y es => y == Str.ofString "append" && chk k o (.e ob) && baseOk ob && k1 es fun u => chk k v (.e u) && plainE u)
  | .pop o, t => kE t (kCallM · fun ob y es => y == Str.ofString "pop" && chk k o (.e ob) && baseOk ob && es.isEmpty)
  | .len a, t => kE t (kCallN · fun y es => k.isGlob y "len" && k1 es fun u => chk k a (.e u) && plainE u)
  | .listOf a, t => kE t (kCallN · fun y es => k.isGlob y "list" && k1 es fun u => chk k a (.e u) && plainE u)
  | .tupleOf a, t => kE t (kCallN · fun y es => k.isGlob y "tuple" && k1 es fun u => chk k a (.e u) && plainE u)
  | .cells lim md, t => kE t (chkCells k lim md)
termination_by structural x => x

/-! blocks -/
noncomputable def chkNames (k : Ck) : List String → List PySem.Expr → Bool
  | [], l => l.isEmpty
  | x :: xs, l => kCons l fun e r => kName e (fun y => k.isLoc y x && x != "script") && chkNames k xs r

theorem chkNames_nil {k : Ck} {l : List PySem.Expr} (h : chkNames k [] l = true) : l = [] := isEmpty_inv h
theorem chkNames_cons {k : Ck} {x : String} {xs : List String} {l : List PySem.Expr} (h : chkNames k (x :: xs) l = true) : ∃ y p r, l = .Name y p :: r ∧ k.isLoc y x = true ∧ x ≠ "script" ∧ chkNames k xs r = true := by
  obtain ⟨e, r, h1, h2⟩ := kCons_inv (l := l) (f := fun e r => kName e (fun y => k.isLoc y x && x != "script") && chkNames k xs r) h
  obtain ⟨h3, h4⟩ := and2 h2
  obtain ⟨y, p, h5, h6⟩ := kName_inv h3
  obtain ⟨h7, h8⟩ := and2 h6
  subst h5
  exact ⟨y, p, r, h1, h7, bne_iff_ne.mp h8, h4⟩

/-- how the stores of a tuple go: none: not told; some true: swapped -/
noncomputable def swapKind (els : List PySem.Expr) : PySem.Expr → Option Bool
  | .Tuple vs _ _ =>
    if (els.length == 2 || els.length == 3) && vs.length == els.length && vs.all plainE && els.all (fun e => e.pos.line == (els.head?.map (·.pos.line)).getD 0) then
      if vs.all (foldedForSure 8) then some false else if vs.all (constantsAlone 8) then none else some true
    else none
  | _ => some false

noncomputable def vSExpr : (x : Stmt) → Option {q : PySem.Expr × Pos // x = .Expr q.1 q.2}
  | .Expr e p => some ⟨(e, p), rfl⟩
  | _ => none
noncomputable def vSAsg : (x : Stmt) → Option {q : PySem.Expr × PySem.Expr × Pos // x = .Assign [q.1] q.2.1 q.2.2}
  | .Assign [e] v p => some ⟨(e, v, p), rfl⟩
  | _ => none
noncomputable def vSAug : (x : Stmt) → Option {q : PySem.Expr × Operator × PySem.Expr × Pos // x = .AugAssign q.1 q.2.1 q.2.2.1 q.2.2.2}
  | .AugAssign e o v p => some ⟨(e, o, v, p), rfl⟩
  | _ => none
noncomputable def vSIf : (x : Stmt) → Option {q : PySem.Expr × List Stmt × List Stmt × Pos // x = .If q.1 q.2.1 q.2.2.1 q.2.2.2}
  | .If e o v p => some ⟨(e, o, v, p), rfl⟩
  | _ => none
noncomputable def vSWhile : (x : Stmt) → Option {q : PySem.Expr × List Stmt × Pos // x = .While q.1 q.2.1 [] q.2.2}
  | .While e o [] p => some ⟨(e, o, p), rfl⟩
  | _ => none
noncomputable def vSFor : (x : Stmt) → Option {q : PySem.Expr × PySem.Expr × List Stmt × Pos // x = .For q.1 q.2.1 q.2.2.1 [] q.2.2.2}
  | .For e i o [] p => some ⟨(e, i, o, p), rfl⟩
  | _ => none
noncomputable def vSRet : (x : Stmt) → Option {q : Option PySem.Expr × Pos // x = .Return q.1 q.2}
  | .Return e p => some ⟨(e, p), rfl⟩
  | _ => none
noncomputable def vSRaise : (x : Stmt) → Option {q : PySem.Expr × Pos // x = .Raise (some q.1) none q.2}
  | .Raise (some e) none p => some ⟨(e, p), rfl⟩
  | _ => none
noncomputable def vSBreak : (x : Stmt) → Option {q : Pos // x = .Break q}
  | .Break p => some ⟨p, rfl⟩
  | _ => none
noncomputable def vSTry : (x : Stmt) → Option {q : List Stmt × List ExceptHandler × Pos // x = .Try q.1 q.2.1 [] [] q.2.2}
  | .Try b h [] [] p => some ⟨(b, h, p), rfl⟩
  | _ => none
noncomputable def vHand : (x : ExceptHandler) → Option {q : PySem.Expr × Str × List Stmt × Pos // x = .ExceptHandler (some q.1) (some q.2.1) q.2.2.1 q.2.2.2}
  | .ExceptHandler (some e) (some z) b p => some ⟨(e, z, b, p), rfl⟩
  | _ => none
noncomputable def kSExpr (x : Stmt) (f : PySem.Expr → Bool) : Bool := vok (vSExpr x) fun q => f q.1
theorem kSExpr_inv {x : Stmt} {f : PySem.Expr → Bool} (h : kSExpr x f = true) : ∃ e p, x = .Expr e p ∧ f e = true := by
  obtain ⟨⟨e, p⟩, h1, h2⟩ := vok_inv h
  exact ⟨e, p, h1, h2⟩
@[elab_as_elim] theorem kSExpr_el {x : Stmt} {f : PySem.Expr → Bool} {P : Stmt → Prop} (h : kSExpr x f = true) (g : ∀ e p, f e = true → P (.Expr e p)) : P x := by
  obtain ⟨e, p, e, h0⟩ := kSExpr_inv h
  rw [e]; exact g _ _ h0
noncomputable def kSAsg (x : Stmt) (f : PySem.Expr → PySem.Expr → Bool) : Bool := vok (vSAsg x) fun q => f q.1 q.2.1
theorem kSAsg_inv {x : Stmt} {f : PySem.Expr → PySem.Expr → Bool} (h : kSAsg x f = true) : ∃ e v p, x = .Assign [e] v p ∧ f e v = true := by
  obtain ⟨⟨e, v, p⟩, h1, h2⟩ := vok_inv h
  exact ⟨e, v, p, h1, h2⟩
@[elab_as_elim] theorem kSAsg_el {x : Stmt} {f : PySem.Expr → PySem.Expr → Bool} {P : Stmt → Prop} (h : kSAsg x f = true) (g : ∀ e v p, f e v = true → P (.Assign [e] v p)) : P x := by
  obtain ⟨e, v, p, e, h0⟩ := kSAsg_inv h
  rw [e]; exact g _ _ _ h0
noncomputable def kSAug (x : Stmt) (f : PySem.Expr → Operator → PySem.Expr → Bool) : Bool := vok (vSAug x) fun q => f q.1 q.2.1 q.2.2.1
theorem kSAug_inv {x : Stmt} {f : PySem.Expr → Operator → PySem.Expr → Bool} (h : kSAug x f = true) : ∃ e o v p, x = .AugAssign e o v p ∧ f e o v = true := by
  obtain ⟨⟨e, o, v, p⟩, h1, h2⟩ := vok_inv h
  exact ⟨e, o, v, p, h1, h2⟩
@[elab_as_elim] theorem kSAug_el {x : Stmt} {f : PySem.Expr → Operator → PySem.Expr → Bool} {P : Stmt → Prop} (h : kSAug x f = true) (g : ∀ e o v p, f e o v = true → P (.AugAssign e o v p)) : P x := by
  obtain ⟨e, o, v, p, e, h0⟩ := kSAug_inv h
  rw [e]; exact g _ _ _ _ h0
noncomputable def kSIf (x : Stmt) (f : PySem.Expr → List Stmt → List Stmt → Bool) : Bool := vok (vSIf x) fun q => f q.1 q.2.1 q.2.2.1
theorem kSIf_inv {x : Stmt} {f : PySem.Expr → List Stmt → List Stmt → Bool} (h : kSIf x f = true) : ∃ e o v p, x = .If e o v p ∧ f e o v = true := by
  obtain ⟨⟨e, o, v, p⟩, h1, h2⟩ := vok_inv h
  exact ⟨e, o, v, p, h1, h2⟩
@[elab_as_elim] theorem kSIf_el {x : Stmt} {f : PySem.Expr → List Stmt → List Stmt → Bool} {P : Stmt → Prop} (h : kSIf x f = true) (g : ∀ e o v p, f e o v = true → P (.If e o v p)) : P x := by
  obtain ⟨e, o, v, p, e, h0⟩ := kSIf_inv h
  rw [e]; exact g _ _ _ _ h0
noncomputable def kSWhile (x : Stmt) (f : PySem.Expr → List Stmt → Bool) : Bool := vok (vSWhile x) fun q => f q.1 q.2.1
theorem kSWhile_inv {x : Stmt} {f : PySem.Expr → List Stmt → Bool} (h : kSWhile x f = true) : ∃ e v p, x = .While e v [] p ∧ f e v = true := by
  obtain ⟨⟨e, v, p⟩, h1, h2⟩ := vok_inv h
  exact ⟨e, v, p, h1, h2⟩
@[elab_as_elim] theorem kSWhile_el {x : Stmt} {f : PySem.Expr → List Stmt → Bool} {P : Stmt → Prop} (h : kSWhile x f = true) (g : ∀ e v p, f e v = true → P (.While e v [] p)) : P x := by
  obtain ⟨e, v, p, e, h0⟩ := kSWhile_inv h
  rw [e]; exact g _ _ _ h0
/-- over a name -/
noncomputable def kSFor (x : Stmt) (f : Str → PySem.Expr → List Stmt → Bool) : Bool := vok (vSFor x) fun q => kName q.1 fun y => f y q.2.1 q.2.2.1
theorem kSFor_inv {x : Stmt} {f : Str → PySem.Expr → List Stmt → Bool} (h : kSFor x f = true) : ∃ y yp i o p, x = .For (.Name y yp) i o [] p ∧ f y i o = true := by
  obtain ⟨⟨e, i, o, p⟩, h1, h2⟩ := vok_inv h
  obtain ⟨y, yp, h3, h4⟩ := kName_inv h2
  exact ⟨y, yp, i, o, p, h1.trans (congrArg (Stmt.For · i o [] p) h3), h4⟩
@[elab_as_elim] theorem kSFor_el {x : Stmt} {f : Str → PySem.Expr → List Stmt → Bool} {P : Stmt → Prop} (h : kSFor x f = true) (g : ∀ y yp i o p, f y i o = true → P (.For (.Name y yp) i o [] p)) : P x := by
  obtain ⟨y, yp, i, o, p, e, h0⟩ := kSFor_inv h
  rw [e]; exact g _ _ _ _ _ h0
noncomputable def kSRet (x : Stmt) (f : Option PySem.Expr → Bool) : Bool := vok (vSRet x) fun q => f q.1
theorem kSRet_inv {x : Stmt} {f : Option PySem.Expr → Bool} (h : kSRet x f = true) : ∃ e p, x = .Return e p ∧ f e = true := by
  obtain ⟨⟨e, p⟩, h1, h2⟩ := vok_inv h
  exact ⟨e, p, h1, h2⟩
@[elab_as_elim] theorem kSRet_el {x : Stmt} {f : Option PySem.Expr → Bool} {P : Stmt → Prop} (h : kSRet x f = true) (g : ∀ e p, f e = true → P (.Return e p)) : P x := by
  obtain ⟨e, p, e, h0⟩ := kSRet_inv h
  rw [e]; exact g _ _ h0
noncomputable def kSRaise (x : Stmt) (f : PySem.Expr → Bool) : Bool := vok (vSRaise x) fun q => f q.1
theorem kSRaise_inv {x : Stmt} {f : PySem.Expr → Bool} (h : kSRaise x f = true) : ∃ e p, x = .Raise (some e) none p ∧ f e = true := by
  obtain ⟨⟨e, p⟩, h1, h2⟩ := vok_inv h
  exact ⟨e, p, h1, h2⟩
@[elab_as_elim] theorem kSRaise_el {x : Stmt} {f : PySem.Expr → Bool} {P : Stmt → Prop} (h : kSRaise x f = true) (g : ∀ e p, f e = true → P (.Raise (some e) none p)) : P x := by
  obtain ⟨e, p, e, h0⟩ := kSRaise_inv h
  rw [e]; exact g _ _ h0
noncomputable def kSTry (x : Stmt) (f : Stmt → PySem.Expr → Str → Stmt → Bool) : Bool := vok (vSTry x) fun q => k1 q.1 fun b => k1 q.2.1 fun h => vok (vHand h) fun r => k1 r.2.2.1 fun s => f b r.1 r.2.1 s
theorem kSTry_inv {x : Stmt} {f : Stmt → PySem.Expr → Str → Stmt → Bool} (h : kSTry x f = true) : ∃ b e z s hp p, x = .Try [b] [.ExceptHandler (some e) (some z) [s] hp] [] [] p ∧ f b e z s = true := by
  obtain ⟨⟨bl, hl, p⟩, h1, h2⟩ := vok_inv h
  obtain ⟨b, h3, h4⟩ := k1_inv h2
  obtain ⟨hd, h5, h6⟩ := k1_inv h4
  obtain ⟨⟨e, z, sl, hp⟩, h7, h8⟩ := vok_inv h6
  obtain ⟨s, h9, h10⟩ := k1_inv h8
  obtain rfl : sl = [s] := h9
  obtain rfl : hd = _ := h7
  obtain rfl : bl = [b] := h3
  obtain rfl : hl = [_] := h5
  exact ⟨b, e, z, s, hp, p, h1, h10⟩
@[elab_as_elim] theorem kSTry_el {x : Stmt} {f : Stmt → PySem.Expr → Str → Stmt → Bool} {P : Stmt → Prop} (h : kSTry x f = true) (g : ∀ b e z s hp p, f b e z s = true → P (.Try [b] [.ExceptHandler (some e) (some z) [s] hp] [] [] p)) : P x := by
  obtain ⟨b, e, z, s, hp, p, e, h0⟩ := kSTry_inv h
  rw [e]; exact g _ _ _ _ _ _ h0
/-- a field of a told name -/
noncomputable def kFld (x : PySem.Expr) (a b : String) : Bool := kAttr x fun o w _ => kName o (· == Str.ofString a) && w == Str.ofString b
theorem kFld_inv {x : PySem.Expr} {a b : String} (h : kFld x a b = true) : ∃ p q, x = .Attribute (.Name (Str.ofString a) p) (Str.ofString b) q := by
  obtain ⟨o, w, q, rfl, h0⟩ := kAttr_inv h
  obtain ⟨h1, h2⟩ := Bool.and_eq_true_iff.mp h0
  obtain ⟨y, p, rfl, h3⟩ := kName_inv h1
  obtain rfl := beq_iff_eq.mp h2
  obtain rfl := beq_iff_eq.mp h3
  exact ⟨p, q, rfl⟩
@[elab_as_elim] theorem kFld_el {x : PySem.Expr} {a b : String} {P : PySem.Expr → Prop} (h : kFld x a b = true) (g : ∀ p q, P (.Attribute (.Name (Str.ofString a) p) (Str.ofString b) q)) : P x := by
  obtain ⟨p, q, e⟩ := kFld_inv h
  rw [e]; exact g _ _

noncomputable def vNoneE : (e : PE) → Option {u : Unit // e = .none}
  | .none => some ⟨(), rfl⟩
  | _ => none
noncomputable def isNoneE (e : PE) : Bool := vok (vNoneE e) fun _ => true
theorem isNoneE_inv {e : PE} (h : isNoneE e = true) : e = .none := by
  obtain ⟨_, h, _⟩ := vok_inv h
  exact h
noncomputable def chkRet (k : Ck) (e : PE) (o : Option PySem.Expr) : Bool := match o with
  | some x => chk k e (.e x)
  | none => isNoneE e

noncomputable def chkB (k : Ck) : PB → List Stmt → Bool
  | .nil, l => l.isEmpty
  | .expr e r, t => kCons t fun s l => (kSExpr s fun x => chk k e (.e x) && noComp x) && chkB k r l
  | .asg x e r, t => kCons t fun s l => (kSAsg s fun y v => (kName y fun y => k.isLoc y x) && x != "script" && noComp v && chk k e (.e v)) && chkB k r l
  | .asgT xs e r, t => kCons t fun s l => (kSAsg s fun y v => (kTuple y fun els => chkNames k xs els && decide xs.Nodup && (xs.map Str.ofString).eraseDups.length == xs.length && (swapKind els v).isSome) && noComp v && chk k e (.e v)) && chkB k r l
  | .asgAttr o a e r, t => kCons t fun s l => (kSAsg s fun y v => (kAttr y fun x y _ => y == Str.ofString a && chk k o (.e x)) && attrNames.contains a && noComp v && chk k e (.e v)) && chkB k r l
  | .asgItem o key e r, t => kCons t fun s l => (kSAsg s fun y v => (kSubs y fun x i => kConst i (.str (Str.ofString key)) && chk k o (.e x)) && noComp v && chk k e (.e v)) && chkB k r l
  | .augLoc x op e r, t => kCons t fun s l => (kSAug s fun y p v => kName y (k.isLoc · x) && x != "script" && p == opE op && chk k e (.e v)) && chkB k r l
  | .augAttr o a op e r, t => kCons t fun s l => (kSAug s fun y p v => (kAttr y fun x y _ => y == Str.ofString a && chk k o (.e x)) && attrNames.contains a && p == opE op && chk k e (.e v)) && chkB k r l
  | .ifS c a b r, t => kCons t fun s l => (kSIf s fun u x y => chk k c (.e u) && chkB k a x && chkB k b y) && chkB k r l
  | .whileS c b r, t => kCons t fun s l => (kSWhile s fun u x => chk k c (.e u) && chkB k b x) && chkB k r l
  | .forR x as b r, t => kCons t fun s l => (kSFor s fun y it body => k.isLoc y x && x != "script" && (kCallN it fun g es => k.isGlob g "range" && !es.isEmpty && chk k as (.a es)) && chkB k b body) && chkB k r l
  | .forL x e b r, t => kCons t fun s l => (kSFor s fun y it body => k.isLoc y x && x != "script" && noSet it && chk k e (.e it) && chkB k b body) && chkB k r l
  | .ret e _, t => kCons t fun s _ => kSRet s (chkRet k e)
  | .raise a b _, t => kCons t fun s _ => kSRaise s fun x => kCallN x fun y es => k.isGlob y "TextFault" && k2 es fun u v => chk k a (.e u) && chk k b (.e v) && plainE u && plainE v
  | .tryRet e _, t => kCons t fun s _ => kSTry s fun b x z h => (kSRet b fun o => kEnd o (some fun x => chk k e (.e x))) && kName x (k.isGlob · "TextFault") && k.isLoc z "fault" &&
      (kSRet h fun o => kEnd o (some fun x => kTuple x fun es => k2 es fun u v => kFld u "fault" "what" && kFld v "fault" "spot"))
  | .brk _, t => kCons t fun s _ => (vSBreak s).isSome
termination_by structural x => x

end Mine
end
section
/-! Soundness, part 1: the relation between the pure state and the model's state. -/
open PySem PySem.W PySem.Calls PyProof.Rows
set_option maxRecDepth 100000
namespace Mine

noncomputable abbrev S (x : String) : Str := Str.ofString x

theorem S_cps (x : String) : (S x).cps.toList = x.toList.map Char.toNat := signs_ofString x
theorem S_inj {x y : String} (h : S x = S y) : x = y := by
  have h2 : x.toList.map Char.toNat = y.toList.map Char.toNat := by rw [← S_cps, ← S_cps, h]
  have inj : ∀ (a b : List Char), a.map Char.toNat = b.map Char.toNat → a = b := by
    intro a
    induction a with
    | nil => intro b hb; cases b with
      | nil => rfl
      | cons c r => simp at hb
    | cons c r ih => intro b hb; cases b with
      | nil => simp at hb
      | cons d q =>
        simp only [List.map_cons, List.cons.injEq] at hb
        rw [ih q hb.2, Char.toNat_inj.mp hb.1]
  exact String.toList_injective (inj _ _ h2)
theorem S_eq_iff {x y : String} : S x = S y ↔ x = y := ⟨S_inj, fun h => by rw [h]⟩
theorem S_beq (x y : String) : (S x == S y) = (x == y) := by
  rw [Bool.eq_iff_iff]; simp only [beq_iff_eq, S_eq_iff]
theorem S_append (x y : String) : S (x ++ y) = S x ++ S y := by
  refine Str.ext' ?_
  rw [Str.cps_append]
  apply Array.toList_inj.mp
  rw [Array.toList_append, S_cps, S_cps, S_cps, String.toList_append, List.map_append]
theorem S_length (x : String) : (S x).length = x.length := PySem.ofString_length x

noncomputable abbrev tupObj (vs : List Value) (n : Nat) : Obj := { cls := .type "tuple", data := .seq vs.toArray n }

noncomputable abbrev Led := List (Addr × Obj)
noncomputable abbrev Ads := List (Addr × Addr)

mutual
inductive VR (ad : Ads) (nw : Led) : PV → Value → Prop
  | none : VR ad nw .none .none
  | bool (b : Bool) : VR ad nw (.bool b) (.bool b)
  | int (i : Int) (t : Tok) : VR ad nw (.int i) (.int i t)
  | str (x : String) (t : Tok) : VR ad nw (.str x) (.str (S x) t)
  | tup {l : List PV} {a : Addr} {vs : List Value} {n : Nat} : (a, tupObj vs n) ∈ nw → l.length ≤ 1000000 → VRs ad nw l vs → VR ad nw (.tup l) (.ref a)
  | obj {i : Nat} {x d : Addr} : ad[i]? = some (x, d) → VR ad nw (.obj i) (.ref x)
inductive VRs (ad : Ads) (nw : Led) : List PV → List Value → Prop
  | nil : VRs ad nw [] []
  | cons {v : PV} {l : List PV} {u : Value} {vs : List Value} : VR ad nw v u → VRs ad nw l vs → VRs ad nw (v :: l) (u :: vs)
end

/-- what stands fixed: program, world, the top's heap, the classes -/
structure FC where
  prog : Program
  w : World
  K : Frag
  base : Heap
  C : Addr
  TF : Addr
  p : Program
  loose : List Str
  mg : Str → Option Value
  mb : Str → Option Value

inductive KR (ad : Ads) (nw : Led) : List (String × PV) → List (Str × Value) → Prop
  | nil : KR ad nw [] []
  | cons {k : String} {v : PV} {l : List (String × PV)} {u : Value} {es : List (Str × Value)} : VR ad nw v u → KR ad nw l es → KR ad nw ((k, v) :: l) ((S k, u) :: es)

inductive DR (P : Params) (ad : Ads) (nw : Led) : List (String × PV) → List DictEntry → Prop
  | nil : DR P ad nw [] []
  | cons {k : String} {v : PV} {l : List (String × PV)} {t : Tok} {u : Value} {es : List DictEntry} : VR ad nw v u → DR P ad nw l es →
      DR P ad nw ((k, v) :: l) (⟨PyData.keyHash P (S k), .str (S k) t, u⟩ :: es)

noncomputable def OR (c : FC) (ad : Ads) (nw : Led) (o : PO) (q : Addr × Addr) : Prop := match o with
  | .list l => ∃ vs n, (q.1, listOf vs.toArray n) ∈ nw ∧ VRs ad nw l vs ∧ l.length ≤ 1000000 ∧ q.2 = q.1
  | .rlist l => ∃ (o : Obj) (vs : List Value) (n : Nat), (q.1, o) ∈ nw ∧ (o.cls = .type "list" ∧ o.data = .seq vs.toArray n) ∧ VRs ad nw l vs ∧ l.length ≤ 1000000 ∧ q.2 = q.1
  | .dict l => ∃ (o : Obj) (kvs : List (Str × Value)), (q.1, o) ∈ nw ∧ o.IsDictOf (strKind c.prog c.w) kvs ∧ KR ad nw l kvs ∧ l.length ≤ 1000 ∧ q.2 = q.1
  | .inst l => ∃ es n, (q.1, instObj c.C q.2) ∈ nw ∧ (q.2, dictOf es n) ∈ nw ∧ DR c.w.params ad nw l es ∧ l.length ≤ 1000

/-- the addresses of the objects that may change -/
noncomputable def adrs (ad : Ads) : List Addr := ad.flatMap fun q => [q.1, q.2]

structure HR (c : FC) (ad : Ads) (nw : Led) (σ : Hp) : Prop where
  len : ad.length = σ.length
  at_ : ∀ (i : Nat) o q, σ[i]? = some o → ad[i]? = some q → OR c ad nw o q

structure Ext (ad : Ads) (nw : Led) (ad' : Ads) (nw' : Led) : Prop where
  pre : ∀ (i : Nat) q, ad[i]? = some q → ad'[i]? = some q
  keep : ∀ a o, (a, o) ∈ nw → a ∉ adrs ad → (a, o) ∈ nw'
  tup : ∀ a vs n, (a, tupObj vs n) ∈ nw → (a, tupObj vs n) ∈ nw'
  fresh : ∀ a ∈ adrs ad', a ∈ adrs ad ∨ ∀ p ∈ nw, p.1 ≠ a

theorem Ext.refl (ad : Ads) (nw : Led) : Ext ad nw ad nw := ⟨fun _ _ h => h, fun _ _ h _ => h, fun _ _ _ h => h, fun _ h => .inl h⟩
theorem Ext.trans {ad ad' ad'' : Ads} {nw nw' nw'' : Led} (x : Ext ad nw ad' nw') (y : Ext ad' nw' ad'' nw'') : Ext ad nw ad'' nw'' := by
  have key : ∀ a o, (a, o) ∈ nw → a ∉ adrs ad → a ∉ adrs ad' := fun a o h n h' => by
    rcases x.fresh a h' with q | q
    · exact n q
    · exact q (a, o) h rfl
  refine ⟨fun i q h => y.pre i q (x.pre i q h), fun a o h n => y.keep a o (x.keep a o h n) (key a o h n), fun a vs n h => y.tup a vs n (x.tup a vs n h), fun a h => ?_⟩
  rcases y.fresh a h with q | q
  · exact x.fresh a q
  · by_cases m : a ∈ adrs ad
    · exact .inl m
    · exact .inr fun p hp e => q p (x.keep p.1 p.2 hp (by rw [e]; exact m)) e

theorem VR.both {ad : Ads} {nw : Led} {P : PV → Value → Prop} {P' : List PV → List Value → Prop} (h1 : P .none .none) (h2 : ∀ b, P (.bool b) (.bool b)) (h3 : ∀ i t, P (.int i) (.int i t)) (h4 : ∀ x t, P (.str x) (.str (S x) t))
    (h5 : ∀ {l a vs n}, (a, tupObj vs n) ∈ nw → l.length ≤ 1000000 → VRs ad nw l vs → P' l vs → P (.tup l) (.ref a)) (h6 : ∀ {i x d}, ad[i]? = some (x, d) → P (.obj i) (.ref x)) (h7 : P' [] []) (h8 : ∀ {v l u vs}, VR ad nw v u → VRs ad nw l vs → P v u → P' l vs → P' (v :: l) (u :: vs)) :
    (∀ {v u}, VR ad nw v u → P v u) ∧ (∀ {l vs}, VRs ad nw l vs → P' l vs) :=
  ⟨fun h => VR.rec (motive_1 := fun v u _ => P v u) (motive_2 := fun l vs _ => P' l vs) h1 h2 h3 h4 h5 h6 h7 h8 h, fun h => VRs.rec (motive_1 := fun v u _ => P v u) (motive_2 := fun l vs _ => P' l vs) h1 h2 h3 h4 h5 h6 h7 h8 h⟩
theorem VRs.ind {ad : Ads} {nw : Led} {P : List PV → List Value → Prop} (h7 : P [] []) (h8 : ∀ {v l u vs}, VR ad nw v u → VRs ad nw l vs → P l vs → P (v :: l) (u :: vs)) {l vs} (h : VRs ad nw l vs) : P l vs :=
  (VR.both (P := fun _ _ => True) (P' := P) trivial (fun _ => trivial) (fun _ _ => trivial) (fun _ _ => trivial) (fun _ _ _ _ => trivial) (fun _ => trivial) h7 (fun a b _ d => h8 a b d)).2 h
theorem VR.monos {ad ad' : Ads} {nw nw' : Led} (hp : ∀ (i : Nat) q, ad[i]? = some q → ad'[i]? = some q) (ht : ∀ a vs n, (a, tupObj vs n) ∈ nw → (a, tupObj vs n) ∈ nw') :
    (∀ {v : PV} {u : Value}, VR ad nw v u → VR ad' nw' v u) ∧ (∀ {v : List PV} {u : List Value}, VRs ad nw v u → VRs ad' nw' v u) :=
  VR.both .none .bool .int .str (fun h n _ r => .tup (ht _ _ _ h) n r) (fun h => .obj (hp _ _ h)) .nil (fun _ _ a b => .cons a b)
theorem VR.mono {ad ad' : Ads} {nw nw' : Led} (hp : ∀ (i : Nat) q, ad[i]? = some q → ad'[i]? = some q) (ht : ∀ a vs n, (a, tupObj vs n) ∈ nw → (a, tupObj vs n) ∈ nw') {v : PV} {u : Value} (h : VR ad nw v u) : VR ad' nw' v u := (VR.monos hp ht).1 h
theorem VRs.mono {ad ad' : Ads} {nw nw' : Led} (hp : ∀ (i : Nat) q, ad[i]? = some q → ad'[i]? = some q) (ht : ∀ a vs n, (a, tupObj vs n) ∈ nw → (a, tupObj vs n) ∈ nw') {v : List PV} {u : List Value} (h : VRs ad nw v u) : VRs ad' nw' v u := (VR.monos hp ht).2 h
theorem VR.ext {ad ad' : Ads} {nw nw' : Led} (x : Ext ad nw ad' nw') {v : PV} {u : Value} (h : VR ad nw v u) : VR ad' nw' v u := h.mono x.pre x.tup
theorem VRs.ext {ad ad' : Ads} {nw nw' : Led} (x : Ext ad nw ad' nw') {v : List PV} {u : List Value} (h : VRs ad nw v u) : VRs ad' nw' v u := h.mono x.pre x.tup
theorem DR.mono {P : Params} {ad ad' : Ads} {nw nw' : Led} (hp : ∀ (i : Nat) q, ad[i]? = some q → ad'[i]? = some q) (ht : ∀ a vs n, (a, tupObj vs n) ∈ nw → (a, tupObj vs n) ∈ nw')
    {l : List (String × PV)} {es : List DictEntry} (h : DR P ad nw l es) : DR P ad' nw' l es := by
  induction h with
  | nil => exact .nil
  | cons a b ih => exact .cons (a.mono hp ht) ih
theorem KR.mono {ad ad' : Ads} {nw nw' : Led} (hp : ∀ (i : Nat) q, ad[i]? = some q → ad'[i]? = some q) (ht : ∀ a vs n, (a, tupObj vs n) ∈ nw → (a, tupObj vs n) ∈ nw')
    {l : List (String × PV)} {es : List (Str × Value)} (h : KR ad nw l es) : KR ad' nw' l es := by
  induction h with
  | nil => exact .nil
  | cons a b ih => exact .cons (a.mono hp ht) ih
/-- what is said of an object is kept where its own entries, the tuples and the numbering are kept -/
theorem OR.keep {c : FC} {ad ad' : Ads} {nw nw' : Led} {o : PO} {q : Addr × Addr} (r : OR c ad nw o q) (hp : ∀ (i : Nat) q, ad[i]? = some q → ad'[i]? = some q) (ht : ∀ a vs n, (a, tupObj vs n) ∈ nw → (a, tupObj vs n) ∈ nw')
    (k1 : ∀ o, (q.1, o) ∈ nw → (q.1, o) ∈ nw') (k2 : ∀ o, (q.2, o) ∈ nw → (q.2, o) ∈ nw') : OR c ad' nw' o q := by
  cases o with
  | list l => obtain ⟨vs, n, h1, h2, h3⟩ := r; exact ⟨vs, n, k1 _ h1, h2.mono hp ht, h3⟩
  | rlist l => obtain ⟨o, vs, n, h1, h2, h3, h4⟩ := r; exact ⟨o, vs, n, k1 _ h1, h2, h3.mono hp ht, h4⟩
  | dict l => obtain ⟨o, kvs, h1, h2, h3, h4⟩ := r; exact ⟨o, kvs, k1 _ h1, h2, h3.mono hp ht, h4⟩
  | inst l => obtain ⟨es, n, h1, h2, h3, h4⟩ := r; exact ⟨es, n, k1 _ h1, k2 _ h2, h3.mono hp ht, h4⟩

theorem VRs.length {ad : Ads} {nw : Led} {l : List PV} {vs : List Value} (h : VRs ad nw l vs) : vs.length = l.length := VRs.ind (P := fun l vs => vs.length = l.length) rfl (fun _ _ ih => congrArg (· + 1) ih) h
theorem VRs.get {ad : Ads} {nw : Led} {l : List PV} {vs : List Value} (h : VRs ad nw l vs) : ∀ {i : Nat} {v : PV}, l[i]? = some v → ∃ u, vs[i]? = some u ∧ VR ad nw v u :=
  VRs.ind (P := fun l vs => ∀ {i : Nat} {v : PV}, l[i]? = some v → ∃ u, vs[i]? = some u ∧ VR ad nw v u) (fun h => nomatch h) (fun {v l u vs} a _ ih {i w} h => match i, h with
    | 0, h => ⟨u, rfl, Option.some.inj h ▸ a⟩
    | _ + 1, h => ih h) h
theorem VRs.append {ad : Ads} {nw : Led} {l : List PV} {vs : List Value} (h : VRs ad nw l vs) {l' : List PV} {vs' : List Value} (h' : VRs ad nw l' vs') : VRs ad nw (l ++ l') (vs ++ vs') :=
  VRs.ind (P := fun l vs => VRs ad nw (l ++ l') (vs ++ vs')) h' (fun a _ ih => .cons a ih) h
theorem VRs.take {ad : Ads} {nw : Led} {l : List PV} {vs : List Value} (h : VRs ad nw l vs) : ∀ k, VRs ad nw (l.take k) (vs.take k) :=
  VRs.ind (P := fun l vs => ∀ k, VRs ad nw (l.take k) (vs.take k)) (fun k => by rw [List.take_nil, List.take_nil]; exact .nil) (fun a _ ih k => match k with
    | 0 => .nil
    | k + 1 => .cons a (ih k)) h
theorem VRs.drop {ad : Ads} {nw : Led} {l : List PV} {vs : List Value} (h : VRs ad nw l vs) : ∀ k, VRs ad nw (l.drop k) (vs.drop k) :=
  VRs.ind (P := fun l vs => ∀ k, VRs ad nw (l.drop k) (vs.drop k)) (fun k => by rw [List.drop_nil, List.drop_nil]; exact .nil) (fun a b ih k => match k with
    | 0 => .cons a b
    | k + 1 => ih k) h

/-- a frame; `sf`: the frames that wait below it, with their names -/
structure Fm where
  A₀ : Around
  sf : List (Env × (Str → Option Value))
  qual : Str
  scope : Scope
  L : Addr
  a : Addr
  cd : Value
  sc : Option (List Int)

noncomputable abbrev Fm.env (f : Fm) : Env := envOf f.qual f.scope f.L f.a f.cd
noncomputable abbrev Fm.A (f : Fm) : Around := f.A₀.deeper f.env
noncomputable abbrev Fm.outer (f : Fm) : List Env := f.sf.map (·.1)

structure FmOk (c : FC) (n : Nat) (f : Fm) : Prop where
  stack : f.A₀.frames = some f.outer
  handled : f.A₀.handled = none
  kind : f.scope.kind = .function
  depth : f.A₀.depth + 8 * n + 20 < recursionLimit
  units : f.A₀.units + 40 * n + 200 < cLine
  X : c.K.In c.base
  T : TopRead c.p c.loose c.mg c.mb c.base

noncomputable def NsO (o : Obj) (m : Str → Option Value) : Prop := ∃ es ep, o.data = .dict es ep ∧ StrKeys es ∧ ∀ name, nsFind es name = m name
theorem ns_iff {h : Heap} {L : Addr} {m : Str → Option Value} : h.Ns L m ↔ ∃ o, h.get? L = some o ∧ NsO o m :=
  ⟨fun ⟨o, es, ep, ho, r⟩ => ⟨o, ho, es, ep, r⟩, fun ⟨o, ho, es, ep, r⟩ => ⟨o, es, ep, ho, r⟩⟩

noncomputable def Apart (ad : Ads) : Prop := ∀ (i j : Nat) q r, ad[i]? = some q → ad[j]? = some r → i ≠ j → q.1 ≠ r.1 ∧ q.1 ≠ r.2 ∧ q.2 ≠ r.1 ∧ q.2 ≠ r.2

noncomputable def ScOk (c : FC) (f : Fm) (m : Str → Option Value) : Prop := match f.sc with
  | some ns => ∃ l vs, m (S "script") = some (.ref l) ∧ c.base.IsList l (List.toArray vs) ∧ IntsAre vs ns ∧ ns.length ≤ 1000
  | none => True

noncomputable def SfOk (c : FC) (f : Fm) (nw : Led) (h : Heap) : Prop := ∀ p ∈ f.sf, p.1.scope.kind ≠ .module ∧ ∃ Lp, p.1.frame = some Lp ∧ h.Ns Lp p.2 ∧ c.base.objs.size ≤ Lp ∧ Lp ≠ f.L ∧ ∀ q ∈ nw, q.1 ≠ Lp

structure Inv (c : FC) (f : Fm) (m : Str → Option Value) (nw : Led) (ad : Ads) (ρ : Loc) (σ : Hp) (h : Heap) : Prop where
  F : Fr c.base f.L h m
  N : News c.base f.L h nw
  nd : (nw.map (·.1)).Nodup
  sf : SfOk c f nw h
  L : ∀ x v, ρ x = some v → ∃ u, m (S x) = some u ∧ VR ad nw v u
  H : HR c ad nw σ
  ap : Apart ad
  sc : ScOk c f m

theorem get?_none_of_size {h : Heap} {a : Addr} (k : h.objs.size ≤ a) : h.get? a = none := by
  cases q : h.get? a with
  | none => rfl
  | some o => exact absurd (Heap.lt_size q) (Nat.not_lt.mpr k)

/-- a step of the heap that leaves all else as it was -/
theorem SfOk.step {c : FC} {f : Fm} {nw nw' : Led} {h h' : Heap} (x : SfOk c f nw h) (k : ∀ p ∈ f.sf, ∀ Lp, p.1.frame = some Lp → Lp ≠ f.L → (∀ q ∈ nw, q.1 ≠ Lp) → (∃ o, h.get? Lp = some o) → h'.get? Lp = h.get? Lp)
    (kn : ∀ Lp o, h.get? Lp = some o → (∀ q ∈ nw, q.1 ≠ Lp) → ∀ q ∈ nw', q.1 ≠ Lp) : SfOk c f nw' h' := fun p hp => by
  obtain ⟨a, Lp, b, ns, d, e, g⟩ := x p hp
  obtain ⟨o, ho, r⟩ := ns_iff.mp ns
  exact ⟨a, Lp, b, ns_iff.mpr ⟨o, (k p hp Lp b e g ⟨o, ho⟩).trans ho, r⟩, d, e, kn Lp o ho g⟩

theorem led_lt {c : FC} {L : Addr} {nw : Led} {h : Heap} (N : News c.base L h nw) : ∀ p ∈ nw, p.1 < h.objs.size := fun p hp => Heap.lt_size (N p hp).1

/-- one more object, no abstract one -/
theorem Inv.push {c : FC} {f : Fm} {m : Str → Option Value} {nw : Led} {ad : Ads} {ρ : Loc} {σ : Hp} {h : Heap} (I : Inv c f m nw ad ρ σ h) (o : Obj) (hf : o.isFreed = false) :
    Inv c f m ((h.objs.size, o) :: nw) ad ρ σ (h.push o) := by
  have sub : ∀ {q : Addr × Obj}, q ∈ nw → q ∈ ((h.objs.size, o) :: nw : Led) := fun x => .tail _ x
  refine ⟨I.F.push o, I.N.push I.F o hf, ?_, ?_, ?_, ?_, I.ap, I.sc⟩
  · simp only [List.map_cons, List.nodup_cons]
    refine ⟨fun hm => ?_, I.nd⟩
    obtain ⟨p, hp, e⟩ := List.mem_map.mp hm
    exact Nat.lt_irrefl _ (e ▸ led_lt I.N p hp)
  · refine I.sf.step (fun p _ Lp _ _ _ ho => ?_) fun Lp o' ho g q hq => ?_
    · obtain ⟨o', ho⟩ := ho
      rw [ho, Heap.get?_push_of_some _ ho]
    · rcases List.mem_cons.mp hq with rfl | hq
      · exact fun e => Nat.lt_irrefl _ (e ▸ Heap.lt_size ho)
      · exact g q hq
  · intro x v hx
    obtain ⟨u, hu, r⟩ := I.L x v hx
    exact ⟨u, hu, r.mono (fun _ _ e => e) fun _ _ _ => sub⟩
  · refine ⟨I.H.len, fun i po q hi hq => ?_⟩
    exact (I.H.at_ i po q hi hq).keep (fun _ _ e => e) (fun _ _ _ => sub) (fun _ => sub) fun _ => sub

theorem mem_adrs {ad : Ads} {a : Addr} : a ∈ adrs ad ↔ ∃ (i : Nat) (q : Addr × Addr), ad[i]? = some q ∧ (a = q.1 ∨ a = q.2) := by
  unfold adrs
  simp only [List.mem_flatMap, List.mem_cons, List.not_mem_nil, or_false]
  constructor
  · rintro ⟨q, hq, h⟩
    obtain ⟨i, hi⟩ := List.mem_iff_getElem?.mp hq
    exact ⟨i, q, hi, h⟩
  · rintro ⟨i, q, hi, h⟩
    exact ⟨q, List.mem_of_getElem? hi, h⟩

theorem Inv.adr_mem {c : FC} {f : Fm} {m : Str → Option Value} {nw : Led} {ad : Ads} {ρ : Loc} {σ : Hp} {h : Heap} (I : Inv c f m nw ad ρ σ h) {a : Addr} (ha : a ∈ adrs ad) :
    ∃ o, (a, o) ∈ nw ∧ ∀ vs n, o ≠ tupObj vs n := by
  obtain ⟨i, q, hi, e⟩ := mem_adrs.mp ha
  have hlt : i < σ.length := by
    rw [← I.H.len]
    exact (List.getElem?_eq_some_iff.mp hi).1
  have r := I.H.at_ i σ[i] q (List.getElem?_eq_getElem hlt) hi
  cases ho : σ[i] with
  | list l => rw [ho] at r; obtain ⟨vs, n, h1, h2, h3, h4⟩ := r; rcases e with rfl | rfl
              · exact ⟨_, h1, fun _ _ q => by simp at q⟩
              · rw [h4]; exact ⟨_, h1, fun _ _ q => by simp at q⟩
  | rlist l => rw [ho] at r; obtain ⟨od, vs, n, h1, hx, h2, h3, h4⟩ := r; rcases e with rfl | rfl
               · exact ⟨_, h1, fun _ _ q => by have := hx.1; rw [q] at this; simp at this⟩
               · rw [h4]; exact ⟨_, h1, fun _ _ q => by have := hx.1; rw [q] at this; simp at this⟩
  | dict l => rw [ho] at r; obtain ⟨od, kvs, h1, ⟨_, _, hx, _⟩, h3, _, h4⟩ := r; rcases e with rfl | rfl
              · exact ⟨_, h1, fun _ _ q => by have := hx.1; rw [q] at this; simp at this⟩
              · rw [h4]; exact ⟨_, h1, fun _ _ q => by have := hx.1; rw [q] at this; simp at this⟩
  | inst l => rw [ho] at r; obtain ⟨vs, n, h1, h2, h3, h4⟩ := r; rcases e with rfl | rfl
              · exact ⟨_, h1, fun _ _ q => by simp at q⟩
              · exact ⟨_, h2, fun _ _ q => by simp at q⟩


/-- an entry of the ledger becomes an abstract object -/
theorem Inv.adopt {c : FC} {f : Fm} {m : Str → Option Value} {nw : Led} {ad : Ads} {ρ : Loc} {σ : Hp} {h : Heap} (I : Inv c f m nw ad ρ σ h) {o : PO} {q : Addr × Addr}
    (r : OR c ad nw o q) (h1 : q.1 ∉ adrs ad) (h2 : q.2 ∉ adrs ad) : Inv c f m nw (ad ++ [q]) ρ (σ ++ [o]) h := by
  have hp : ∀ (i : Nat) p, ad[i]? = some p → (ad ++ [q])[i]? = some p := fun i p e => by
    rw [List.getElem?_append_left (List.getElem?_eq_some_iff.mp e).1]; exact e
  have ht : ∀ a vs n, (a, tupObj vs n) ∈ nw → (a, tupObj vs n) ∈ nw := fun _ _ _ e => e
  have orm : ∀ {po : PO} {p : Addr × Addr}, OR c ad nw po p → OR c (ad ++ [q]) nw po p := fun {po p} r => r.keep hp ht (fun _ e => e) fun _ e => e
  refine ⟨I.F, I.N, I.nd, I.sf, fun x v hx => ?_, ⟨by simp [I.H.len], fun i po p hi hq => ?_⟩, ?_, I.sc⟩
  · obtain ⟨u, hu, r⟩ := I.L x v hx
    exact ⟨u, hu, r.mono hp ht⟩
  · by_cases hlt : i < σ.length
    · rw [List.getElem?_append_left hlt] at hi
      rw [List.getElem?_append_left (by rw [I.H.len]; exact hlt)] at hq
      exact orm (I.H.at_ i po p hi hq)
    · have e : i = σ.length := by
        have := (List.getElem?_eq_some_iff.mp hi).1
        simp at this; omega
      subst e
      rw [← I.H.len] at hq
      simp at hi hq
      subst hi hq
      exact orm r
  · have one : ∀ (i : Nat) p, ad[i]? = some p → p.1 ≠ q.1 ∧ p.1 ≠ q.2 ∧ p.2 ≠ q.1 ∧ p.2 ≠ q.2 := fun i p e =>
      ⟨fun z => h1 (mem_adrs.mpr ⟨i, p, e, .inl z.symm⟩), fun z => h2 (mem_adrs.mpr ⟨i, p, e, .inl z.symm⟩), fun z => h1 (mem_adrs.mpr ⟨i, p, e, .inr z.symm⟩), fun z => h2 (mem_adrs.mpr ⟨i, p, e, .inr z.symm⟩)⟩
    have cut : ∀ (i : Nat) p, (ad ++ [q])[i]? = some p → ad[i]? = some p ∨ (i = ad.length ∧ p = q) := fun i p e => by
      by_cases hlt : i < ad.length
      · rw [List.getElem?_append_left hlt] at e; exact .inl e
      · have z := (List.getElem?_eq_some_iff.mp e).1
        simp at z
        have z' : i = ad.length := by omega
        subst z'
        simp at e
        exact .inr ⟨rfl, e.symm⟩
    intro i j p t hi hj hne
    rcases cut i p hi with a | ⟨a, b⟩ <;> rcases cut j t hj with a' | ⟨a', b'⟩
    · exact I.ap i j p t a a' hne
    · subst b'; exact one i p a
    · subst b; obtain ⟨z1, z2, z3, z4⟩ := one j t a'; exact ⟨Ne.symm z1, Ne.symm z3, Ne.symm z2, Ne.symm z4⟩
    · exact absurd (a.trans a'.symm) hne

theorem Ext.adopt {ad : Ads} {nw nw' : Led} {q : Addr × Addr} (hk : ∀ p ∈ nw, p ∈ nw') (h1 : ∀ p ∈ nw, p.1 ≠ q.1) (h2 : ∀ p ∈ nw, p.1 ≠ q.2) : Ext ad nw (ad ++ [q]) nw' := by
  refine ⟨fun i p e => ?_, fun a o h _ => hk _ h, fun a vs n h => hk _ h, fun a h => ?_⟩
  · rw [List.getElem?_append_left (List.getElem?_eq_some_iff.mp e).1]; exact e
  · unfold adrs at h ⊢
    rw [List.flatMap_append, List.mem_append] at h
    rcases h with h | h
    · exact .inl h
    · simp at h
      rcases h with rfl | rfl
      · exact .inr h1
      · exact .inr h2

noncomputable def updL (nw : Led) (d : Addr) (o : Obj) : Led := nw.map fun p => if p.1 = d then (d, o) else p
theorem updL_fst (nw : Led) (d : Addr) (o : Obj) : (updL nw d o).map (·.1) = nw.map (·.1) := by
  unfold updL
  rw [List.map_map]
  refine List.map_congr_left fun p _ => ?_
  show (if p.1 = d then (d, o) else p).1 = p.1
  split
  · rename_i e; exact e.symm
  · rfl
theorem mem_updL_ne {nw : Led} {d a : Addr} {o o' : Obj} (h : a ≠ d) : (a, o') ∈ updL nw d o ↔ (a, o') ∈ nw := by
  unfold updL
  rw [List.mem_map]
  constructor
  · rintro ⟨p, hp, e⟩
    split at e
    · cases e; exact absurd rfl h
    · exact e ▸ hp
  · exact fun hp => ⟨(a, o'), hp, by rw [if_neg h]⟩
theorem mem_updL_self {nw : Led} {d : Addr} {o o' : Obj} (h : (d, o') ∈ nw) : (d, o) ∈ updL nw d o := by
  unfold updL
  exact List.mem_map.mpr ⟨(d, o'), h, by rw [if_pos rfl]⟩
theorem mem_updL_self_eq {nw : Led} {d : Addr} {o o' : Obj} (h : (d, o') ∈ updL nw d o) : o' = o := by
  unfold updL at h
  obtain ⟨p, hp, e⟩ := List.mem_map.mp h
  split at e
  · cases e; rfl
  · rename_i n; exact absurd (congrArg Prod.fst e) n
theorem nodup_get {nw : Led} (nd : (nw.map (·.1)).Nodup) {a : Addr} {o o' : Obj} (h : (a, o) ∈ nw) (h' : (a, o') ∈ nw) : o = o' := by
  induction nw with
  | nil => cases h
  | cons p r ih =>
    simp only [List.map_cons, List.nodup_cons] at nd
    rcases List.mem_cons.mp h with e | h
    · rcases List.mem_cons.mp h' with e' | h'
      · rw [← e'] at e; cases e; rfl
      · exact absurd (List.mem_map.mpr ⟨_, h', by rw [← e]⟩) nd.1
    · rcases List.mem_cons.mp h' with e' | h'
      · exact absurd (List.mem_map.mpr ⟨_, h, by rw [← e']⟩) nd.1
      · exact ih nd.2 h h'

/-- the abstract object i is changed at its address d -/
theorem Inv.change0 {c : FC} {f : Fm} {m : Str → Option Value} {nw : Led} {ad : Ads} {ρ : Loc} {σ : Hp} {h h' : Heap} (I : Inv c f m nw ad ρ σ h) {i : Nat} {q : Addr × Addr} {d : Addr} {o o' : Obj} {po po' : PO}
    (hi : ad[i]? = some q) (hs : σ[i]? = some po) (hd : d = q.1 ∨ d = q.2) (hm : (d, o) ∈ nw) (F' : Fr c.base f.L h' m) (N' : News c.base f.L h' (updL nw d o')) (sf' : SfOk c f (updL nw d o') h')
    (r : OR c ad (updL nw d o') po' q) : Inv c f m (updL nw d o') ad ρ (σ.set i po') h' ∧ Ext ad nw ad (updL nw d o') := by
  have dm : d ∈ adrs ad := mem_adrs.mpr ⟨i, q, hi, hd⟩
  have nt : ∀ vs n, (d, tupObj vs n) ∉ nw := fun vs n hx => by
    obtain ⟨o₁, h₁, h₂⟩ := I.adr_mem dm
    exact h₂ vs n (nodup_get I.nd h₁ hx)
  have tup : ∀ a vs n, (a, tupObj vs n) ∈ nw → (a, tupObj vs n) ∈ updL nw d o' := fun a vs n hx =>
    (mem_updL_ne fun (e : a = d) => nt vs n (e ▸ hx)).mpr hx
  have idp : ∀ (i : Nat) p, ad[i]? = some p → ad[i]? = some p := fun _ _ e => e
  refine ⟨⟨F', N', ?_, sf', ?_, ?_, I.ap, I.sc⟩, ⟨idp, ?_, tup, fun a ha => .inl ha⟩⟩
  · rw [updL_fst]; exact I.nd
  · intro x v hx
    obtain ⟨u, hu, r⟩ := I.L x v hx
    exact ⟨u, hu, r.mono idp tup⟩
  · refine ⟨by rw [List.length_set]; exact I.H.len, fun j pj qj hj hqj => ?_⟩
    by_cases e : i = j
    · subst e
      rw [List.getElem?_set_self (List.getElem?_eq_some_iff.mp hs).1] at hj
      cases hj
      rw [hi] at hqj; cases hqj
      exact r
    · rw [List.getElem?_set_ne e] at hj
      have rj := I.H.at_ j pj qj hj hqj
      have ap := I.ap i j q qj hi hqj e
      have n1 : qj.1 ≠ d := by rcases hd with rfl | rfl; exact Ne.symm ap.1; exact Ne.symm ap.2.2.1
      have n2 : qj.2 ≠ d := by rcases hd with rfl | rfl; exact Ne.symm ap.2.1; exact Ne.symm ap.2.2.2
      exact rj.keep idp tup (fun _ e => (mem_updL_ne n1).mpr e) fun _ e => (mem_updL_ne n2).mpr e
  · intro a oa h1 h2
    exact (mem_updL_ne fun (e : a = d) => h2 (e ▸ dm)).mpr h1
theorem SfOk.upd {c : FC} {f : Fm} {nw : Led} {h h' : Heap} {d : Addr} {o o' : Obj} (x : SfOk c f nw h) (hm : (d, o) ∈ nw) (k : ∀ b, b ≠ d → h'.get? b = h.get? b) : SfOk c f (updL nw d o') h' := by
  refine x.step (fun p _ Lp _ _ g _ => k Lp (Ne.symm (g _ hm))) fun Lp _ _ g q hq => ?_
  have : q.1 ∈ (updL nw d o').map (·.1) := List.mem_map_of_mem hq
  rw [updL_fst] at this
  obtain ⟨p, hp, e⟩ := List.mem_map.mp this
  exact e ▸ g p hp
theorem news_updL {h₀ h h' : Heap} {L d : Addr} {nw : Led} {o o' : Obj} (N : News h₀ L h nw) (hm : (d, o) ∈ nw) (hsb : Heap.SameBut d h h') (ho' : h'.get? d = some o') : News h₀ L h' (updL nw d o') := by
  intro p hp
  obtain ⟨a, oa⟩ := p
  by_cases e : a = d
  · subst e
    have := mem_updL_self_eq hp
    subst this
    exact ⟨ho', (N (a, o) hm).2⟩
  · have hp' := (mem_updL_ne e).mp hp
    exact ⟨(hsb.2 a e).trans (N _ hp').1, (N _ hp').2⟩
theorem fr_but {h₀ h h' : Heap} {L d : Addr} {m : Str → Option Value} {nw : Led} {o : Obj} (F : Fr h₀ L h m) (N : News h₀ L h nw) (hm : (d, o) ∈ nw) (hsb : Heap.SameBut d h h') : Fr h₀ L h' m := by
  have hL : d ≠ L := (N (d, o) hm).2.1
  have hb : h₀.get? d = none := (N (d, o) hm).2.2
  obtain ⟨oL, hoL, rr⟩ := ns_iff.mp F.ns
  exact ⟨ns_iff.mpr ⟨oL, (hsb.2 _ (Ne.symm hL)).trans hoL, rr⟩, fun b ob e => (hsb.2 b fun z => by rw [z, hb] at e; cases e).trans (F.keep b ob e), F.above⟩
theorem Inv.change {c : FC} {f : Fm} {m : Str → Option Value} {nw : Led} {ad : Ads} {ρ : Loc} {σ : Hp} {h h' : Heap} (I : Inv c f m nw ad ρ σ h) {i : Nat} {q : Addr × Addr} {d : Addr} {o o' : Obj} {po po' : PO}
    (hi : ad[i]? = some q) (hs : σ[i]? = some po) (hd : d = q.1 ∨ d = q.2) (hm : (d, o) ∈ nw) (hsb : Heap.SameBut d h h') (ho' : h'.get? d = some o')
    (r : OR c ad (updL nw d o') po' q) : Inv c f m (updL nw d o') ad ρ (σ.set i po') h' ∧ Ext ad nw ad (updL nw d o') :=
  I.change0 hi hs hd hm (fr_but I.F I.N hm hsb) (news_updL I.N hm hsb ho') (I.sf.upd hm hsb.2) r

/-- a name of the frame's is stored -/
theorem Inv.store {c : FC} {f : Fm} {m : Str → Option Value} {nw : Led} {ad : Ads} {ρ : Loc} {σ : Hp} {h h' : Heap} (I : Inv c f m nw ad ρ σ h) {x : String} {v : PV} {u : Value}
    (hn : h'.Ns f.L fun y => if y = S x then some u else m y) (hs : Heap.SameBut f.L h h') (r : VR ad nw v u) (hx : x ≠ "script") :
    Inv c f (fun y => if y = S x then some u else m y) nw ad (ρ.set x v) σ h' := by
  refine ⟨I.F.set hn hs, I.N.set hs, I.nd, I.sf.step (fun p _ Lp _ e _ _ => hs.2 Lp e) (fun _ _ _ g => g), ?_, I.H, I.ap, ?_⟩
  · intro y w hy
    unfold Loc.set at hy
    by_cases e : y = x
    · subst e
      rw [if_pos rfl] at hy; cases hy
      exact ⟨u, by rw [if_pos rfl], r⟩
    · rw [if_neg e] at hy
      obtain ⟨u', hu', r'⟩ := I.L y w hy
      exact ⟨u', by rw [if_neg (fun z => e (S_inj z))]; exact hu', r'⟩
  · unfold ScOk
    have := I.sc
    unfold ScOk at this
    cases hsc : f.sc with
    | none => trivial
    | some ns =>
      rw [hsc] at this
      obtain ⟨l, vs, h1, h2⟩ := this
      exact ⟨l, vs, (if_neg (fun z => hx (S_inj z).symm)).trans h1, h2⟩


/-- the waiting frames' dicts, as they stand -/
theorem Inv.frames {c : FC} {f : Fm} {m : Str → Option Value} {nw : Led} {ad : Ads} {ρ : Loc} {σ : Hp} {h : Heap} (I : Inv c f m nw ad ρ σ h) :
    ∃ fl : Led, News c.base f.L h fl ∧ (∀ p ∈ fl, ∀ q ∈ nw, q.1 ≠ p.1) ∧ ∀ h', News c.base f.L h' fl → ∀ nw', (∀ p ∈ fl, ∀ q ∈ nw', q.1 ≠ p.1) → SfOk c f nw' h' := by
  have ex : ∀ l : List (Env × (Str → Option Value)), (∀ p ∈ l, p ∈ f.sf) → ∃ fl : Led, News c.base f.L h fl ∧ (∀ p ∈ fl, ∀ q ∈ nw, q.1 ≠ p.1) ∧ ∀ p ∈ l, ∃ Lp o, p.1.frame = some Lp ∧ (Lp, o) ∈ fl ∧ NsO o p.2 := by
    intro l
    induction l with
    | nil => exact fun _ => ⟨[], News.nil, (fun _ h => nomatch h), fun _ h => nomatch h⟩
    | cons p r ih =>
      intro hl
      obtain ⟨fl, N, hn, hr⟩ := ih fun q hq => hl q (.tail _ hq)
      obtain ⟨_, Lp, b, ns, d, e, g⟩ := I.sf p (hl p (.head _))
      obtain ⟨o, ho, no⟩ := ns_iff.mp ns
      refine ⟨(Lp, o) :: fl, fun q hq => ?_, fun q hq => ?_, fun q hq => ?_⟩
      · rcases List.mem_cons.mp hq with rfl | hq
        · exact ⟨ho, e, get?_none_of_size d⟩
        · exact N q hq
      · rcases List.mem_cons.mp hq with rfl | hq
        · exact g
        · exact hn q hq
      · rcases List.mem_cons.mp hq with rfl | hq
        · exact ⟨Lp, o, b, .head _, no⟩
        · obtain ⟨Lq, oq, z1, z2, z3⟩ := hr q hq
          exact ⟨Lq, oq, z1, .tail _ z2, z3⟩
  obtain ⟨fl, Nf, hn, hf⟩ := ex f.sf fun _ h => h
  refine ⟨fl, Nf, hn, fun h' N' nw' off p hp => ?_⟩
  obtain ⟨k, Lp, b, ns, d, e, g⟩ := I.sf p hp
  obtain ⟨Lq, o, z1, z2, z3⟩ := hf p hp
  rw [b] at z1; cases z1
  exact ⟨k, Lp, b, ns_iff.mpr ⟨o, (N' (Lp, o) z2).1, z3⟩, d, e, fun q hq => off _ z2 q hq⟩

/-- the ledger with the waiting frames' dicts: for the library's rules that hand on an unknown heap -/
theorem Inv.grow {c : FC} {f : Fm} {m : Str → Option Value} {nw : Led} {ad : Ads} {ρ : Loc} {σ : Hp} {h : Heap} (I : Inv c f m nw ad ρ σ h) :
    ∃ news, News c.base f.L h news ∧ (∀ p ∈ nw, p ∈ news) ∧ ∀ h' adds, Fr c.base f.L h' m → News c.base f.L h' (adds ++ news) → (∀ p ∈ adds, ∀ q ∈ news, q.1 < p.1) → (adds.map (·.1)).Nodup →
      Inv c f m (adds ++ nw) ad ρ σ h' := by
  obtain ⟨fl, Nf, hn, sf⟩ := I.frames
  refine ⟨nw ++ fl, fun p hp => (List.mem_append.mp hp).elim (I.N p) (Nf p), fun p hp => List.mem_append_left _ hp, fun h' adds F' N' lt nd => ?_⟩
  have sub : ∀ {q : Addr × Obj}, q ∈ nw → q ∈ (adds ++ nw : Led) := fun x => List.mem_append_right _ x
  have tup : ∀ a vs n, (a, tupObj vs n) ∈ nw → (a, tupObj vs n) ∈ (adds ++ nw : Led) := fun _ _ _ => sub
  have idp : ∀ (i : Nat) p, ad[i]? = some p → ad[i]? = some p := fun _ _ e => e
  refine ⟨F', fun p hp => N' p ?_, ?_, sf h' (fun p hp => N' p (List.mem_append_right _ (List.mem_append_right _ hp))) _ fun p hp q hq => ?_, fun x v hx => ?_, ⟨I.H.len, fun i po q hi hq => ?_⟩, I.ap, I.sc⟩
  · rcases List.mem_append.mp hp with q | q
    · exact List.mem_append_left _ q
    · exact List.mem_append_right _ (List.mem_append_left _ q)
  · rw [List.map_append]
    refine List.nodup_append.mpr ⟨nd, I.nd, fun a ha b hb e => ?_⟩
    obtain ⟨p, hp, rfl⟩ := List.mem_map.mp ha
    obtain ⟨q, hq, rfl⟩ := List.mem_map.mp hb
    exact Nat.lt_irrefl _ (e ▸ lt p hp q (List.mem_append_left _ hq))
  · rcases List.mem_append.mp hq with q' | q'
    · exact fun w => Nat.lt_irrefl _ (w ▸ lt q q' p (List.mem_append_right _ hp))
    · exact hn p hp q q'
  · obtain ⟨u, hu, r⟩ := I.L x v hx
    exact ⟨u, hu, r.mono idp tup⟩
  · exact (I.H.at_ i po q hi hq).keep idp tup (fun _ => sub) fun _ => sub

theorem updL_ne {l : Led} {d : Addr} {o : Obj} (hl : ∀ q ∈ l, q.1 ≠ d) : updL l d o = l := by
  unfold updL
  exact (List.map_congr_left (g := id) fun q hq => if_neg (hl q hq)).trans (List.map_id _)
theorem updL_upd {nw : Led} {d : Addr} {o o' : Obj} (nd : (nw.map (·.1)).Nodup) (hm : (d, o) ∈ nw) : Upd d o o' nw (updL nw d o') := by
  induction nw with
  | nil => cases hm
  | cons p r ih =>
    simp only [List.map_cons, List.nodup_cons] at nd
    by_cases e : p.1 = d
    · have hp : p = (d, o) := by
        rcases List.mem_cons.mp hm with h | h
        · exact h.symm
        · exact absurd (List.mem_map.mpr ⟨_, h, e.symm⟩) nd.1
      subst hp
      have hr : ∀ q ∈ r, q.1 ≠ d := fun q hq z => nd.1 (List.mem_map.mpr ⟨q, hq, z⟩)
      have : updL ((d, o) :: r) d o' = (d, o') :: r := by
        show (if d = d then (d, o') else (d, o)) :: updL r d o' = _
        rw [if_pos rfl, updL_ne hr]
      rw [this]
      exact .head hr
    · have hm' : (d, o) ∈ r := by
        rcases List.mem_cons.mp hm with h | h
        · exact absurd (congrArg Prod.fst h).symm e
        · exact h
      have : updL (p :: r) d o' = p :: updL r d o' := by
        show (if p.1 = d then (d, o') else p) :: updL r d o' = _
        rw [if_neg e]
      rw [this]
      exact .tail e (ih nd.2 hm')
theorem Upd.more {d : Addr} {o o' : Obj} {l l' r : Led} (U : Upd d o o' l l') (hr : ∀ p ∈ r, p.1 ≠ d) : Upd d o o' (l ++ r) (l' ++ r) := by
  induction U with
  | head h => exact .head fun p hp => (List.mem_append.mp hp).elim (h p) (hr p)
  | tail h _ ih => exact .tail h ih

/-- the same for a rule that changes one object of the ledger -/
theorem Inv.growU {c : FC} {f : Fm} {m : Str → Option Value} {nw : Led} {ad : Ads} {ρ : Loc} {σ : Hp} {h : Heap} (I : Inv c f m nw ad ρ σ h) {d : Addr} {o : Obj} (o' : Obj) (hm : (d, o) ∈ nw) :
    ∃ news news', News c.base f.L h news ∧ Upd d o o' news news' ∧ ∀ h', Fr c.base f.L h' m → News c.base f.L h' news' → News c.base f.L h' (updL nw d o') ∧ SfOk c f (updL nw d o') h' := by
  obtain ⟨fl, Nf, hn, sf⟩ := I.frames
  refine ⟨nw ++ fl, updL nw d o' ++ fl, fun p hp => (List.mem_append.mp hp).elim (I.N p) (Nf p), Upd.more (updL_upd I.nd hm) fun p hp => Ne.symm (hn p hp _ hm), fun h' _ N' => ?_⟩
  refine ⟨fun p hp => N' p (List.mem_append_left _ hp), sf h' (fun p hp => N' p (List.mem_append_right _ hp)) _ fun p hp q hq => ?_⟩
  have : q.1 ∈ (updL nw d o').map (·.1) := List.mem_map_of_mem hq
  rw [updL_fst] at this
  obtain ⟨p', hp', e⟩ := List.mem_map.mp this
  exact e ▸ hn p hp p' hp'
theorem Ext.adds {ad : Ads} {nw : Led} (adds : Led) : Ext ad nw ad (adds ++ nw) :=
  ⟨fun _ _ e => e, fun _ _ e _ => List.mem_append_right _ e, fun _ _ _ e => List.mem_append_right _ e, fun _ e => .inl e⟩

/-- the abstract list, dict, object at a number -/
theorem Inv.listAt {c : FC} {f : Fm} {m : Str → Option Value} {nw : Led} {ad : Ads} {ρ : Loc} {σ : Hp} {h : Heap} (I : Inv c f m nw ad ρ σ h) {i : Nat} {l : List PV} (e : listAt σ i = some l) {x d : Addr} (ha : ad[i]? = some (x, d)) :
    ∃ vs n, (x, listOf vs.toArray n) ∈ nw ∧ VRs ad nw l vs ∧ l.length ≤ 1000000 ∧ d = x := by
  unfold Mine.listAt at e
  split at e
  · rename_i l' q
    cases e
    exact I.H.at_ i _ _ q ha
  · cases e
theorem Inv.dictAt {c : FC} {f : Fm} {m : Str → Option Value} {nw : Led} {ad : Ads} {ρ : Loc} {σ : Hp} {h : Heap} (I : Inv c f m nw ad ρ σ h) {i : Nat} {l : List (String × PV)} (e : dictAt σ i = some l) {x d : Addr} (ha : ad[i]? = some (x, d)) :
    ∃ (o : Obj) (kvs : List (Str × Value)), (x, o) ∈ nw ∧ o.IsDictOf (strKind c.prog c.w) kvs ∧ KR ad nw l kvs ∧ l.length ≤ 1000 ∧ d = x := by
  unfold Mine.dictAt at e
  split at e
  · rename_i l' q
    cases e
    exact I.H.at_ i _ _ q ha
  · cases e
theorem Inv.instAt {c : FC} {f : Fm} {m : Str → Option Value} {nw : Led} {ad : Ads} {ρ : Loc} {σ : Hp} {h : Heap} (I : Inv c f m nw ad ρ σ h) {i : Nat} {l : List (String × PV)} (e : instAt σ i = some l) {x d : Addr} (ha : ad[i]? = some (x, d)) :
    ∃ es n, (x, instObj c.C d) ∈ nw ∧ (d, dictOf es n) ∈ nw ∧ DR c.w.params ad nw l es ∧ l.length ≤ 1000 := by
  unfold Mine.instAt at e
  split at e
  · rename_i l' q
    cases e
    exact I.H.at_ i _ _ q ha
  · cases e
theorem led_list {h₀ h : Heap} {L a : Addr} {nw : Led} (N : News h₀ L h nw) {vs : List Value} {n : Nat} (hm : (a, listOf vs.toArray n) ∈ nw) : h.IsList a vs.toArray := ⟨_, (N _ hm).1, rfl, n, rfl⟩
theorem Inv.seqAt {c : FC} {f : Fm} {m : Str → Option Value} {nw : Led} {ad : Ads} {ρ : Loc} {σ : Hp} {h : Heap} (I : Inv c f m nw ad ρ σ h) {i : Nat} {l : List PV} (e : seqAt σ i = some l) {x d : Addr} (ha : ad[i]? = some (x, d)) :
    ∃ vs, h.IsList x (List.toArray vs) ∧ VRs ad nw l vs ∧ l.length ≤ 1000000 := by
  unfold Mine.seqAt at e
  split at e
  · rename_i l' q
    cases e
    obtain ⟨vs, n, h1, h2, h3, _⟩ := I.H.at_ i _ _ q ha
    exact ⟨vs, ⟨_, (I.N _ h1).1, rfl, n, rfl⟩, h2, h3⟩
  · rename_i l' q
    cases e
    obtain ⟨o, vs, n, h1, hx, h2, h3, _⟩ := I.H.at_ i _ _ q ha
    exact ⟨vs, ⟨_, (I.N _ h1).1, hx.1, n, hx.2⟩, h2, h3⟩
  · cases e
theorem led_tup {h₀ h : Heap} {L a : Addr} {nw : Led} (N : News h₀ L h nw) {vs : List Value} {n : Nat} (hm : (a, tupObj vs n) ∈ nw) : IsTup h a vs.toArray := ⟨_, (N _ hm).1, rfl, n, rfl⟩

theorem Inv.grow1 {c : FC} {f : Fm} {m : Str → Option Value} {nw : Led} {ad : Ads} {ρ : Loc} {σ : Hp} {h : Heap} (I : Inv c f m nw ad ρ σ h) :
    ∃ news, News c.base f.L h news ∧ (∀ p ∈ nw, p ∈ news) ∧ ∀ h' a o, Fr c.base f.L h' m → News c.base f.L h' ((a, o) :: news) → (∀ q ∈ news, q.1 < a) → Inv c f m ((a, o) :: nw) ad ρ σ h' := by
  obtain ⟨news, N, sub, close⟩ := I.grow
  exact ⟨news, N, sub, fun h' a o F' N' lt => close h' [(a, o)] F' N' (fun p hp q hq => by rw [List.mem_singleton] at hp; subst hp; exact lt q hq) (by simp)⟩
theorem Ext.add1 {ad : Ads} {nw : Led} (p : Addr × Obj) : Ext ad nw ad (p :: nw) := Ext.adds [p]

/-- a heap that has grown, all else as it was -/
theorem Inv.keeps {c : FC} {f : Fm} {m : Str → Option Value} {nw : Led} {ad : Ads} {ρ : Loc} {σ : Hp} {h h' : Heap} (I : Inv c f m nw ad ρ σ h) (k : ∀ b o, h.get? b = some o → h'.get? b = some o) : Inv c f m nw ad ρ σ h' := by
  refine ⟨⟨I.F.ns.keeps k, fun b o e => k b o (I.F.keep b o e), I.F.above⟩, fun p hp => ⟨k _ _ (I.N p hp).1, (I.N p hp).2⟩, I.nd, ?_, I.L, I.H, I.ap, I.sc⟩
  exact I.sf.step (fun p _ Lp _ _ _ ho => by obtain ⟨o, ho⟩ := ho; rw [ho, k _ _ ho]) fun _ _ _ g => g

/-- an object that a rule has made somewhere above -/
theorem Inv.enter {c : FC} {f : Fm} {m : Str → Option Value} {nw : Led} {ad : Ads} {ρ : Loc} {σ : Hp} {h h' : Heap} (I : Inv c f m nw ad ρ σ h) (k : ∀ b o, h.get? b = some o → h'.get? b = some o) {D : Addr} {o : Obj} (hD : h.get? D = none) (ho : h'.get? D = some o) :
    Inv c f m ((D, o) :: nw) ad ρ σ h' := by
  have I' := I.keeps k
  have sub : ∀ {q : Addr × Obj}, q ∈ nw → q ∈ ((D, o) :: nw : Led) := fun x => .tail _ x
  have ne : ∀ b ob, h.get? b = some ob → D ≠ b := fun b ob e z => by rw [← z, hD] at e; cases e
  refine ⟨I'.F, fun p hp => ?_, ?_, ?_, ?_, ⟨I'.H.len, fun i po q hi hq => ?_⟩, I'.ap, I'.sc⟩
  · rcases List.mem_cons.mp hp with rfl | hp
    · obtain ⟨oL, hoL, _⟩ := ns_iff.mp I.F.ns
      refine ⟨ho, ne _ _ hoL, ?_⟩
      cases q : c.base.get? D with
      | none => rfl
      | some ob => have := I.F.keep _ _ q; rw [hD] at this; cases this
    · exact I'.N p hp
  · simp only [List.map_cons, List.nodup_cons]
    refine ⟨fun hm => ?_, I.nd⟩
    obtain ⟨p, hp, e⟩ := List.mem_map.mp hm
    exact ne p.1 p.2 (I.N p hp).1 e.symm
  · intro p hp
    obtain ⟨a, Lp, b, ns, d, e, g⟩ := I'.sf p hp
    obtain ⟨_, Lq, b', ns', _⟩ := I.sf p hp
    rw [b] at b'; cases b'
    obtain ⟨ob, hob, _⟩ := ns_iff.mp ns'
    refine ⟨a, Lp, b, ns, d, e, fun q hq => ?_⟩
    rcases List.mem_cons.mp hq with rfl | hq
    · exact ne _ _ hob
    · exact g q hq
  · intro x v hx
    obtain ⟨u, hu, r⟩ := I.L x v hx
    exact ⟨u, hu, r.mono (fun _ _ e => e) fun _ _ _ => sub⟩
  · exact (I.H.at_ i po q hi hq).keep (fun _ _ e => e) (fun _ _ _ => sub) (fun _ => sub) fun _ => sub

end Mine
end
section
/-! Soundness, part 2: what is to be shown of each construct; names, numbers, texts, tests. -/
open PySem PySem.W PySem.Calls PyProof.Rows
set_option maxRecDepth 100000
namespace Mine

noncomputable abbrev Fm.adr (f : Fm) : List Addr := (f.env :: f.outer).filterMap (·.frame)

/-- the head of an exception's chain of tracebacks, and what stands at its mark of flight -/
noncomputable def TbAt (c : FC) (f : Fm) (nw : Led) (ea : Addr) (h : Heap) (vs : Array Value) (P : Value → Prop) : Prop :=
  ∃ T oT ts x, vs[1]? = some (.ref T) ∧ c.base.get? T = none ∧ (∀ q ∈ nw, q.1 ≠ T) ∧ T ≠ ea ∧ T ∉ f.adr ∧ h.get? T = some oT ∧ oT.data = .fields ts ∧ ts[3]? = some x ∧ P x

/-- an exception of the text's own class flies -/
structure Flight (c : FC) (f : Fm) (nw : Led) (ea de : Addr) (h : Heap) (N : Prop) (P : Value → Prop) : Prop where
  fresh : c.base.get? ea = none
  off : ∀ q ∈ nw, q.1 ≠ ea
  offF : ea ∉ f.adr
  there : ∃ oe vs, h.get? ea = some oe ∧ oe.cls = .ref c.TF ∧ oe.dict = some de ∧ oe.data = .fields vs ∧ 1 < vs.size ∧ ((N ∧ vs[1]? = some .none) ∨ TbAt c f nw ea h vs P)

noncomputable abbrev AnyFl (L : Addr) (x : Value) : Prop := x = .none ∨ x = rawInt L

noncomputable def excEs (P : Params) (t : String) (i : Int) (k1 k2 t1 t2 : Tok) : List DictEntry :=
  [⟨PyData.keyHash P (S "what"), .str (S "what") k1, .str (S t) t1⟩, ⟨PyData.keyHash P (S "spot"), .str (S "spot") k2, .int i t2⟩]

noncomputable def ThrownP (c : FC) (f : Fm) (N : Prop) (P : Value → Prop) (ad : Ads) (nw : Led) (t : String) (i : Int) (σ : Hp) (s : Shared) (e : Value) (s' : Shared) : Prop :=
  ∃ ea de h' tk m' nw' ad' ρ' n k1 k2 t1 t2, e = .ref ea ∧ s' = { s with heap := h', toks := tk } ∧ Inv c f m' nw' ad' ρ' σ h' ∧ Ext ad nw ad' nw' ∧
    (de, dictOf (excEs c.w.params t i k1 k2 t1 t2) n) ∈ nw' ∧ Flight c f nw' ea de h' N P
noncomputable abbrev Thrown (c : FC) (f : Fm) (ad : Ads) (nw : Led) (t : String) (i : Int) (σ : Hp) (s : Shared) (e : Value) (s' : Shared) : Prop := ThrownP c f True (AnyFl f.L) ad nw t i σ s e s'

noncomputable def Post {α β : Type} (R : Ads → Led → α → β → Prop) (c : FC) (f : Fm) (m : Str → Option Value) (ad : Ads) (nw : Led) (ρ : Loc) (s : Shared) (Q : β → Shared → Prop) (E : Value → Shared → Prop) : Res α → Prop
  | .stuck => False
  | .ok v σ' => ∀ h' tk' nw' ad' u, Inv c f m nw' ad' ρ σ' h' → Ext ad nw ad' nw' → R ad' nw' v u → Q u { s with heap := h', toks := tk' }
  | .err t i σ' => ∀ e s', Thrown c f ad nw t i σ' s e s' → E e s'

noncomputable def PostS {α β : Type} (R : Ads → Led → α → β → Prop) (c : FC) (f : Fm) (ad : Ads) (nw : Led) (s : Shared) (Q : β → Shared → Prop) (E : Value → Shared → Prop) : Res (α × Loc) → Prop
  | .stuck => False
  | .ok v σ' => ∀ h' tk' m' nw' ad' u, Inv c f m' nw' ad' v.2 σ' h' → Ext ad nw ad' nw' → R ad' nw' v.1 u → Q u { s with heap := h', toks := tk' }
  | .err t i σ' => ∀ e s', Thrown c f ad nw t i σ' s e s' → E e s'

theorem Thrown.back {c : FC} {f : Fm} {N : Prop} {P : Value → Prop} {ad ad' : Ads} {nw nw' : Led} {t : String} {i : Int} {σ : Hp} {s : Shared} {e : Value} {s' : Shared} {h : Heap} {tk : Nat}
    (X : Ext ad nw ad' nw') (T : ThrownP c f N P ad' nw' t i σ { s with heap := h, toks := tk } e s') : ThrownP c f N P ad nw t i σ s e s' := by
  obtain ⟨ea, de, h', tk', m', nw'', ad'', ρ', n, k1, k2, t1, t2, e1, e2, I, X', hd, F⟩ := T
  exact ⟨ea, de, h', tk', m', nw'', ad'', ρ', n, k1, k2, t1, t2, e1, e2, I, X.trans X', hd, F⟩

section
variable {α β γ δ : Type} {R : Ads → Led → α → β → Prop} {R' : Ads → Led → γ → δ → Prop} {c : FC} {f : Fm} {m : Str → Option Value} {ad ad' : Ads} {nw nw' : Led} {ρ : Loc} {s : Shared} {E : Value → Shared → Prop}

theorem Post.shift {Q : β → Shared → Prop} {r : Res α} {h : Heap} {tk : Nat} (X : Ext ad nw ad' nw') (H : Post R c f m ad nw ρ s Q E r) : Post R c f m ad' nw' ρ { s with heap := h, toks := tk } Q E r := by
  cases r with
  | stuck => exact H
  | ok v σ => exact fun h' tk' nw'' ad'' u I X' r => H h' tk' nw'' ad'' u I (X.trans X') r
  | err t i σ => exact fun e s' T => H e s' (Thrown.back X T)
theorem PostS.shift {Q : β → Shared → Prop} {r : Res (α × Loc)} {h : Heap} {tk : Nat} (X : Ext ad nw ad' nw') (H : PostS R c f ad nw s Q E r) : PostS R c f ad' nw' { s with heap := h, toks := tk } Q E r := by
  cases r with
  | stuck => exact H
  | ok v σ => exact fun h' tk' m' nw'' ad'' u I X' r => H h' tk' m' nw'' ad'' u I (X.trans X') r
  | err t i σ => exact fun e s' T => H e s' (Thrown.back X T)

/-- one step, then the rest -/
theorem Post.bind {Q : β → Shared → Prop} {r : Res γ} {k : γ → Hp → Res α} (H : Post R c f m ad nw ρ s Q E (r.bind k)) {Q' : δ → Shared → Prop}
    (next : ∀ v σ₁ h₁ tk₁ nw₁ ad₁ u, Inv c f m nw₁ ad₁ ρ σ₁ h₁ → Ext ad nw ad₁ nw₁ → R' ad₁ nw₁ v u → Post R c f m ad₁ nw₁ ρ { s with heap := h₁, toks := tk₁ } Q E (k v σ₁) → Q' u { s with heap := h₁, toks := tk₁ }) :
    Post R' c f m ad nw ρ s Q' E r := by
  cases r with
  | stuck => exact H
  | ok v σ => exact fun h' tk' nw' ad' u I X r => next v σ h' tk' nw' ad' u I X r (Post.shift X H)
  | err t i σ => exact H
theorem PostS.bind {Q : β → Shared → Prop} {r : Res γ} {k : γ → Hp → Res (α × Loc)} (H : PostS R c f ad nw s Q E (r.bind k)) {Q' : δ → Shared → Prop}
    (next : ∀ v σ₁ h₁ tk₁ nw₁ ad₁ u, Inv c f m nw₁ ad₁ ρ σ₁ h₁ → Ext ad nw ad₁ nw₁ → R' ad₁ nw₁ v u → PostS R c f ad₁ nw₁ { s with heap := h₁, toks := tk₁ } Q E (k v σ₁) → Q' u { s with heap := h₁, toks := tk₁ }) :
    Post R' c f m ad nw ρ s Q' E r := by
  cases r with
  | stuck => exact H
  | ok v σ => exact fun h' tk' nw' ad' u I X r => next v σ h' tk' nw' ad' u I X r (PostS.shift X H)
  | err t i σ => exact H
theorem PostS.bindS {Q : β → Shared → Prop} {r : Res (γ × Loc)} {k : γ × Loc → Hp → Res (α × Loc)} (H : PostS R c f ad nw s Q E (r.bind k)) {Q' : δ → Shared → Prop}
    (next : ∀ v σ₁ h₁ tk₁ m₁ nw₁ ad₁ u, Inv c f m₁ nw₁ ad₁ v.2 σ₁ h₁ → Ext ad nw ad₁ nw₁ → R' ad₁ nw₁ v.1 u → PostS R c f ad₁ nw₁ { s with heap := h₁, toks := tk₁ } Q E (k v σ₁) → Q' u { s with heap := h₁, toks := tk₁ }) :
    PostS R' c f ad nw s Q' E r := by
  cases r with
  | stuck => exact H
  | ok v σ => exact fun h' tk' m' nw' ad' u I X r => next v σ h' tk' m' nw' ad' u I X r (PostS.shift X H)
  | err t i σ => exact H
theorem Post.mono {Q Q' : β → Shared → Prop} {r : Res α} (H : Post R c f m ad nw ρ s Q E r) (q : ∀ u s', Q u s' → Q' u s') : Post R c f m ad nw ρ s Q' E r := by
  cases r with
  | stuck => exact H
  | ok v σ => exact fun h' tk' nw' ad' u I X r => q _ _ (H h' tk' nw' ad' u I X r)
  | err t i σ => exact H
/-- an end where nothing has been made -/
theorem Post.here {Q : β → Shared → Prop} {v : α} {σ : Hp} {u : β} {tk : Nat} (H : Post R c f m ad nw ρ s Q E (.ok v σ)) (I : Inv c f m nw ad ρ σ s.heap) (r : R ad nw v u) : Q u { s with toks := tk } :=
  H s.heap tk nw ad u I (Ext.refl _ _) r
end

section
variable {α β : Type} {R : Ads → Led → α → β → Prop} {c : FC} {f : Fm} {m : Str → Option Value} {ad : Ads} {nw : Led} {ρ : Loc} {s : Shared} {Q : β → Shared → Prop} {E : Value → Shared → Prop} {a : PV}
theorem Post.onInt {k : Int → Res α} (H : Post R c f m ad nw ρ s Q E (Mine.onInt .stuck a k)) : ∃ x, a = .int x ∧ Post R c f m ad nw ρ s Q E (k x) := by
  cases a <;> first | exact H.elim | exact ⟨_, rfl, H⟩
theorem Post.onStr {k : String → Res α} (H : Post R c f m ad nw ρ s Q E (Mine.onStr .stuck a k)) : ∃ x, a = .str x ∧ Post R c f m ad nw ρ s Q E (k x) := by
  cases a <;> first | exact H.elim | exact ⟨_, rfl, H⟩
theorem Post.onTup {k : List PV → Res α} (H : Post R c f m ad nw ρ s Q E (Mine.onTup .stuck a k)) : ∃ x, a = .tup x ∧ Post R c f m ad nw ρ s Q E (k x) := by
  cases a <;> first | exact H.elim | exact ⟨_, rfl, H⟩
theorem Post.onObj {k : Nat → Res α} (H : Post R c f m ad nw ρ s Q E (Mine.onObj .stuck a k)) : ∃ x, a = .obj x ∧ Post R c f m ad nw ρ s Q E (k x) := by
  cases a <;> first | exact H.elim | exact ⟨_, rfl, H⟩
theorem Post.onSome {γ : Type} {o : Option γ} {k : γ → Res α} (H : Post R c f m ad nw ρ s Q E (Mine.onSome .stuck o k)) : ∃ x, o = some x ∧ Post R c f m ad nw ρ s Q E (k x) := by
  cases o <;> first | exact H.elim | exact ⟨_, rfl, H⟩
theorem Post.onIf {p : Prop} [Decidable p] {r : Res α} (H : Post R c f m ad nw ρ s Q E (if p then r else .stuck)) : p ∧ Post R c f m ad nw ρ s Q E r := by
  by_cases h : p
  · exact ⟨h, by rw [if_pos h] at H; exact H⟩
  · rw [if_neg h] at H; exact H.elim
end

noncomputable def BR (_ : Ads) (_ : Led) (b : Bool) (u : Bool) : Prop := u = b
noncomputable def SoundE (c : FC) (f : Fm) (e : PySem.Expr) (g : Loc → Hp → Res PV) : Prop :=
  ∀ {s : Shared} {m : Str → Option Value} {nw : Led} {ad : Ads} {ρ : Loc} {σ : Hp} {Q : Value → Shared → Prop} {E : Value → Shared → Prop},
    Inv c f m nw ad ρ σ s.heap → Post VR c f m ad nw ρ s Q E (g ρ σ) → wpAny (model c.prog c.w) f.A (eval e f.env) Q E s
noncomputable def SoundT (c : FC) (f : Fm) (e : PySem.Expr) (g : Loc → Hp → Res Bool) : Prop :=
  ∀ {s : Shared} {m : Str → Option Value} {nw : Led} {ad : Ads} {ρ : Loc} {σ : Hp} {Q : Bool → Shared → Prop} {E : Value → Shared → Prop},
    Inv c f m nw ad ρ σ s.heap → Post BR c f m ad nw ρ s Q E (g ρ σ) → wpAny (model c.prog c.w) f.A (isTrue e f.env (eval e f.env)) Q E s
noncomputable def ArgR (ad : Ads) (nw : Led) (v : PV) (us : List Value) : Prop := VRs ad nw (argsOf v) us
inductive PR (ad : Ads) (nw : Led) : List String → List PV → List (Value × Value) → Prop
  | nil : PR ad nw [] [] []
  | cons {k : String} {ks : List String} {v : PV} {l : List PV} {t : Tok} {u : Value} {r : List (Value × Value)} : VR ad nw v u → PR ad nw ks l r → PR ad nw (k :: ks) (v :: l) ((.str (S k) t, u) :: r)
noncomputable def PairR (ks : List String) (ad : Ads) (nw : Led) (v : PV) (r : List (Value × Value)) : Prop := PR ad nw ks (argsOf v) r
/-- a list of terms: as arguments, and as the values of a dict display -/
structure SoundA (c : FC) (f : Fm) (es : List PySem.Expr) (g : Loc → Hp → Res PV) : Prop where
  plain : ∀ x ∈ es, plainE x = true
  args : ∀ {pos : Pos} {s : Shared} {m : Str → Option Value} {nw : Led} {ad : Ads} {ρ : Loc} {σ : Hp} {Q : List Value → Shared → Prop} {E : Value → Shared → Prop},
    Inv c f m nw ad ρ σ s.heap → Post ArgR c f m ad nw ρ s Q E (g ρ σ) → wpAny (model c.prog c.w) f.A (spliced (backTo pos (starEach es f.env))) Q E s
  pairs : ∀ {ks : List String} {keys : List (Option PySem.Expr)}, chkKeys ks keys = true → ks.length = es.length → ∀ {pos : Pos} {s : Shared} {m : Str → Option Value} {nw : Led} {ad : Ads} {ρ : Loc} {σ : Hp} {Q : List (Value × Value) → Shared → Prop} {E : Value → Shared → Prop},
    Inv c f m nw ad ρ σ s.heap → Post (PairR ks) c f m ad nw ρ s Q E (g ρ σ) → wpAny (model c.prog c.w) f.A (evalPairs (pairTrees keys es f.env pos)) Q E s

section
variable {c : FC} {n : Nat} {f : Fm}

theorem s_none {k pos} : SoundE c f (.Constant .none k pos) fun _ σ => .ok .none σ := fun I H => wpAny_Constant_none (H.here I .none)
theorem s_bool {b k pos} : SoundE c f (.Constant (.bool b) k pos) fun _ σ => .ok (.bool b) σ := fun I H => wpAny_Constant_bool (H.here I (.bool b))
theorem s_int {i k pos} : SoundE c f (.Constant (.int i) k pos) fun _ σ => .ok (.int i) σ := fun I H => wpAny_Constant_int (H.here I (.int i _))
theorem s_str {x : String} {k pos} : SoundE c f (.Constant (.str (S x)) k pos) fun _ σ => .ok (.str x) σ := fun I H => wpAny_Constant_str (H.here I (.str x _))

theorem s_loc {x : String} {pos} (ok : FmOk c n f) (hl : (f.scope.names.lookup (S x)) = some .local) (hd : (S x == ("__debug__" : Str)) = false) :
    SoundE c f (.Name (S x) pos) fun ρ σ => match ρ x with | some v => .ok v σ | Option.none => .stuck := fun {s m nw ad ρ σ Q E} I H => by
  dsimp only at H
  cases hx : ρ x with
  | none => rw [hx] at H; exact H.elim
  | some v =>
    rw [hx] at H
    obtain ⟨u, hu, r⟩ := I.L x v hx
    exact ld I.F hu (H.here (tk := s.toks) I r) ok.kind hl hd

theorem s_gint {x : String} {pos} {i : Int} {t : Tok} (ok : FmOk c n f) (hk : (f.scope.names.lookup (S x)) = some .globalImplicit) (hd : (S x == ("__debug__" : Str)) = false)
    (hv : nsIn c.K mainGlobals (S x) = some (some (.int i t))) : SoundE c f (.Name (S x) pos) fun _ σ => .ok (.int i) σ := fun {s m nw ad ρ σ Q E} I H =>
  name_K I.F ok.X ok.T hv (H.here (tk := s.toks) I (.int i t)) ok.kind hk hd

theorem s_not {x : PySem.Expr} {pos} {g : Loc → Hp → Res Bool} (hx : SoundT c f x g) : SoundT c f (.UnaryOp .Not x pos) fun ρ σ => (g ρ σ).bind fun b σ => .ok (!b) σ := fun I H =>
  wpAny_isTrue_Not (hx I (H.bind fun _ _ _ tk _ _ _ I₁ _ r H₁ => H₁.here (tk := tk) I₁ (by rw [r]; rfl)))
end

section
variable {c : FC} {f : Fm} {s : Shared} {m : Str → Option Value} {nw : Led} {ad : Ads} {ρ : Loc} {σ : Hp} {Q : Value → Shared → Prop} {E : Value → Shared → Prop}
/-- a tuple that has just been made -/
theorem Post.newTup {l : List PV} {vs : List Value} {n : Nat} {h' : Heap} {tk : Nat} {a : Addr} (H : Post VR c f m ad nw ρ s Q E (.ok (.tup l) σ)) (r : VRs ad nw l vs) (hl : l.length ≤ 1000000)
    (I' : Inv c f m ((a, tupObj vs n) :: nw) ad ρ σ h') : Q (.ref a) { s with heap := h', toks := tk } :=
  have X : Ext ad nw ad ((a, tupObj vs n) :: nw) := Ext.add1 _
  H h' tk _ ad _ I' X (.tup (.head _) hl (r.ext X))
/-- an abstract object that has just been made -/
theorem Post.newObj {o : PO} {h' : Heap} {tk : Nat} {a : Addr} {ob : Obj} (H : Post VR c f m ad nw ρ s Q E (Mine.newObj o σ)) (I : Inv c f m nw ad ρ σ s.heap) (lt : ∀ p ∈ nw, p.1 < a)
    (I' : Inv c f m ((a, ob) :: nw) ad ρ σ h') (r : OR c ad ((a, ob) :: nw) o (a, a)) : Q (.ref a) { s with heap := h', toks := tk } := by
  have new : ∀ p ∈ nw, p.1 ≠ a := fun p hp e => Nat.lt_irrefl _ (e ▸ lt p hp)
  have off : a ∉ adrs ad := fun h => by
    obtain ⟨o, ho, _⟩ := I.adr_mem h
    exact new _ ho rfl
  have I'' := I'.adopt r off off
  unfold Mine.newObj at H
  exact H h' tk _ _ _ I'' (Ext.adopt (fun p hp => .tail _ hp) new new) (.obj (d := a) (by rw [← I.H.len]; simp))
theorem Post.newList {l : List PV} {vs : List Value} {n : Nat} {h' : Heap} {tk : Nat} {a : Addr} (H : Post VR c f m ad nw ρ s Q E (Mine.newObj (.list l) σ)) (I : Inv c f m nw ad ρ σ s.heap) (r : VRs ad nw l vs) (hl : l.length ≤ 1000000)
    (lt : ∀ p ∈ nw, p.1 < a) (I' : Inv c f m ((a, listOf vs.toArray n) :: nw) ad ρ σ h') : Q (.ref a) { s with heap := h', toks := tk } :=
  H.newObj I lt I' ⟨vs, n, .head _, r.ext (Ext.add1 _), hl, rfl⟩
end

end Mine
end
section
/-! Soundness, part 3: binary operations, comparisons. -/
open PySem PySem.W PySem.Calls PyProof.Rows
set_option maxRecDepth 100000
set_option linter.unusedVariables false
namespace Mine

theorem mulOk_of_small {a b : Int} (ha : a.natAbs ≤ 1000000000000) (hb : b.natAbs ≤ 1000000000000) : IntMulOk a b := by
  have k : ∀ {x : Int}, x.natAbs ≤ 1000000000000 → Builtin.Int.intBits x ≤ 64 := fun {x} h => intBits_le_iff.mpr (Nat.lt_of_le_of_lt h (by decide))
  exact mulOk_of_bits (k ha) (k hb) (by decide)


section
variable {c : FC} {n : Nat} {f : Fm}
  {s : Shared} {m : Str → Option Value} {nw : Led} {ad : Ads} {ρ : Loc} {σ : Hp} {Q : Value → Shared → Prop} {E : Value → Shared → Prop} {a b : PV} {u v : Value} {A : Around}

theorem Post.okInt {i : Int} {t : Nat} (I : Inv c f m nw ad ρ σ s.heap) (H : Post VR c f m ad nw ρ s Q E (okInt i σ)) : Q (.int i t) { s with toks := s.toks + 1 } :=
  (Post.onIf H).2.here (tk := s.toks + 1) I (.int i t)

theorem op_add (I : Inv c f m nw ad ρ σ s.heap) (ra : VR ad nw a u) (rb : VR ad nw b v) (H : Post VR c f m ad nw ρ s Q E (addV a b σ)) :
    wpAny (model c.prog c.w) A (binaryOp .Add u v) Q E s := by
  cases ra with
  | none => exact H.elim
  | bool => exact H.elim
  | int x t =>
    obtain ⟨y, rfl, H⟩ := Post.onInt H
    cases rb; exact add_int (H.okInt I)
  | str x t =>
    obtain ⟨y, rfl, H⟩ := Post.onStr H
    obtain ⟨h, H⟩ := Post.onIf H
    cases rb
    refine add_str (fun t' tk => ?_) (by rw [← Str.length_append, ← S_append, S_length, sizeLine_eq]; omega)
    rw [← S_append]
    exact H.here (tk := tk) I (.str (x ++ y) t')
  | @tup x _ _ _ ha la ra =>
    obtain ⟨y, rfl, H⟩ := Post.onTup H
    obtain ⟨hl, H⟩ := Post.onIf H
    cases rb with
    | tup hb lb rb =>
      obtain ⟨news, N, sub, close⟩ := I.grow1
      have la' := ra.length
      have lb' := rb.length
      rw [List.length_append] at hl
      refine add_tuples (h0 := fun e => ?_) (h1 := fun _ e => ?_) (h2 := fun _ _ h' F' N' => ?_) I.F N (led_tup I.N ha) (led_tup I.N hb) (by rw [la', lb', sizeLine_eq]; omega)
      · subst e
        have : x = [] := List.length_eq_zero_iff.mp (la'.symm)
        subst this
        rw [List.nil_append] at H
        exact H.here (tk := s.toks) I (.tup hb lb rb)
      · subst e
        have : y = [] := List.length_eq_zero_iff.mp (lb'.symm)
        subst this
        rw [List.append_nil] at H
        exact H.here (tk := s.toks) I (.tup ha la ra)
      · exact H.newTup (ra.append rb) (by rw [List.length_append]; omega) (close h' _ _ F' N' (led_lt N))
  | obj ha =>
    obtain ⟨j, rfl, H⟩ := Post.onObj H
    obtain ⟨x, ex, H⟩ := Post.onSome H
    obtain ⟨y, ey, H⟩ := Post.onSome H
    obtain ⟨hl, H⟩ := Post.onIf H
    cases rb with
    | obj hb =>
      obtain ⟨vs, k, h1, h2, h3, _⟩ := I.listAt ex ha
      obtain ⟨ws, l, g1, g2, g3, _⟩ := I.listAt ey hb
      obtain ⟨news, N, sub, close⟩ := I.grow1
      have la' := h2.length
      have lb' := g2.length
      rw [List.length_append] at hl
      exact add_lists I.F N (led_list I.N h1) (led_list I.N g1) (fun h' F' N' => H.newList I (h2.append g2) (by rw [List.length_append]; omega) (led_lt I.N) (close h' _ _ F' N' (led_lt N))) (by rw [la', lb', sizeLine_eq]; omega)
theorem Post.two {k : Int → Int → Res PV} (ra : VR ad nw a u) (rb : VR ad nw b v) (H : Post VR c f m ad nw ρ s Q E (Mine.onInt .stuck a fun x => Mine.onInt .stuck b fun y => k x y)) : ∃ x y t t', u = .int x t ∧ v = .int y t' ∧ Post VR c f m ad nw ρ s Q E (k x y) := by
  obtain ⟨x, ea, H1⟩ := Post.onInt H
  obtain ⟨y, eb, H2⟩ := Post.onInt H1
  subst ea eb
  cases ra; cases rb
  exact ⟨x, y, _, _, rfl, rfl, H2⟩
theorem op_bin {op : AOp} (I : Inv c f m nw ad ρ σ s.heap) (ra : VR ad nw a u) (rb : VR ad nw b v) (H : Post VR c f m ad nw ρ s Q E (binV op a b σ)) :
    wpAny (model c.prog c.w) A (binaryOp (opE op) u v) Q E s := by
  cases op with
  | add => exact op_add I ra rb H
  | sub =>
    obtain ⟨x, y, t, t', rfl, rfl, H⟩ := Post.two ra rb H
    exact sub_int (H.okInt I)
  | mul =>
    obtain ⟨x, y, t, t', rfl, rfl, H⟩ := Post.two ra rb H
    obtain ⟨h, H⟩ := Post.onIf H
    exact mul_int (H.okInt I) (mulOk_of_small h.1 h.2)
  | fdiv =>
    obtain ⟨x, y, t, t', rfl, rfl, H⟩ := Post.two ra rb H
    obtain ⟨h, H⟩ := Post.onIf H
    exact floordiv_int (by omega) (H.okInt I) (.inl (PyProof.noPylong_small (by omega)))
  | mod =>
    obtain ⟨x, y, t, t', rfl, rfl, H⟩ := Post.two ra rb H
    obtain ⟨h, H⟩ := Post.onIf H
    exact mod_int' (by omega) (H.okInt I)
end
end Mine
end
section
/-! Soundness, part 4: comparisons, `in`. -/
open PySem PySem.W PySem.Calls PyProof.Rows
set_option maxRecDepth 100000
set_option linter.unusedVariables false
namespace Mine

mutual
noncomputable def pd : PV → PyData
  | .none => .none
  | .bool b => .bool b
  | .int i => .int i
  | .str x => .str (S x)
  | .tup l => .tuple (pdL l)
  | .obj _ => .none
noncomputable def pdL : List PV → List PyData
  | [] => []
  | v :: l => pd v :: pdL l
end

mutual
theorem eqv_pd : ∀ (a b : PV) (n k : Nat), PV.flat n a = true → PV.flat k b = true → PyData.eqv (pd a) (pd b) = PV.eqb a b
  | .none, b, n, k, _, hb => by cases b <;> first | rfl | (cases k <;> exact nomatch hb)
  | .bool a, b, n, k, _, hb => by cases b <;> first | rfl | (cases k <;> exact nomatch hb)
  | .int a, b, n, k, _, hb => by cases b <;> first | rfl | (cases k <;> exact nomatch hb)
  | .str a, .str b, n, k, _, hb => S_beq a b
  | .str a, .none, n, k, _, hb => rfl
  | .str a, .bool _, n, k, _, hb => rfl
  | .str a, .int _, n, k, _, hb => rfl
  | .str a, .tup _, n, k, _, hb => rfl
  | .str a, .obj _, n, k, _, hb => by cases k <;> exact nomatch hb
  | .tup a, b, n, k, ha, hb => by
    cases n with
    | zero => exact nomatch ha
    | succ n =>
      cases b with
      | tup b =>
        cases k with
        | zero => exact nomatch hb
        | succ k => exact eqvL_pd a b n k (List.all_eq_true.mp ha) (List.all_eq_true.mp hb)
      | obj _ => cases k <;> exact nomatch hb
      | _ => rfl
  | .obj a, b, n, k, ha, _ => by cases n <;> exact nomatch ha
theorem eqvL_pd : ∀ (a b : List PV) (n k : Nat), (∀ x ∈ a, PV.flat n x = true) → (∀ x ∈ b, PV.flat k x = true) → PyData.eqvAll (pdL a) (pdL b) = PV.eqbL a b
  | [], [], _, _, _, _ => rfl
  | [], _ :: _, _, _, _, _ => rfl
  | _ :: _, [], _, _, _, _ => rfl
  | x :: a, y :: b, n, k, ha, hb => by
    show (PyData.eqv (pd x) (pd y) && PyData.eqvAll (pdL a) (pdL b)) = (PV.eqb x y && PV.eqbL a b)
    rw [eqv_pd x y n k (ha x (.head _)) (hb y (.head _)), eqvL_pd a b n k (fun z hz => ha z (.tail _ hz)) fun z hz => hb z (.tail _ hz)]
end

theorem strOk_S (x : String) : PyData.strOk (S x) = true := by
  unfold PyData.strOk
  rw [← Array.all_toList, S_cps, List.all_map, List.all_eq_true]
  intro ch _
  simp only [Function.comp, decide_eq_true_eq]
  have := ch.valid
  have e : ch.toNat = ch.val.toNat := rfl
  simp only [UInt32.isValidChar, Nat.isValidChar] at this
  omega

mutual
theorem lay_pd : ∀ (v : PV) (n : Nat), PV.flat n v = true → (pd v).canLay0 = true ∧ (pd v).depth ≤ n
  | .none, n, _ => ⟨rfl, Nat.zero_le _⟩
  | .bool _, n, _ => ⟨rfl, Nat.zero_le _⟩
  | .int _, n, _ => ⟨rfl, Nat.zero_le _⟩
  | .str x, n, _ => ⟨strOk_S x, Nat.zero_le _⟩
  | .tup l, 0, h => nomatch h
  | .tup l, n + 1, h =>
    have q := layL_pd l n (List.all_eq_true.mp h)
    ⟨q.1, Nat.succ_le_succ q.2⟩
  | .obj _, n, h => by cases n <;> exact nomatch h
theorem layL_pd : ∀ (l : List PV) (n : Nat), (∀ v ∈ l, PV.flat n v = true) → PyData.canLayAll0 (pdL l) = true ∧ PyData.depthAll (pdL l) ≤ n
  | [], n, _ => ⟨rfl, Nat.zero_le _⟩
  | v :: l, n, h => by
    have a := lay_pd v n (h v (.head _))
    have b := layL_pd l n fun x hx => h x (.tail _ hx)
    rw [pdL]
    exact ⟨by rw [PyData.canLayAll0, a.1, b.1]; rfl, Nat.max_le.mpr ⟨a.2, b.2⟩⟩
end

theorem reads_both {h₀ h : Heap} {L : Addr} {nw : Led} {ad : Ads} (N : News h₀ L h nw) : (∀ {v : PV} {u : Value}, VR ad nw v u → ∀ n, PV.flat n v = true → ∃ as, Reads h u (pd v) as) ∧ (∀ {l : List PV} {us : List Value}, VRs ad nw l us → ∀ n, (∀ v ∈ l, PV.flat n v = true) → ∃ as, ReadsAll h us (pdL l) as) :=
  VR.both (P := fun v u => ∀ n, PV.flat n v = true → ∃ as, Reads h u (pd v) as) (P' := fun l us => ∀ n, (∀ v ∈ l, PV.flat n v = true) → ∃ as, ReadsAll h us (pdL l) as)
    (fun _ _ => ⟨_, .none⟩) (fun b _ _ => ⟨_, .bool b⟩) (fun i t _ _ => ⟨_, .int i t⟩) (fun x t _ _ => ⟨_, .str _ t⟩)
    (fun hm _ _ ih n hk => match n, hk with
      | n + 1, hk => (ih n (List.all_eq_true.mp hk)).elim fun as q => ⟨as, .tuple (N _ hm).1 rfl rfl q⟩)
    (fun _ n hk => by cases n <;> exact nomatch hk) (fun _ _ => ⟨_, .nil⟩)
    (fun _ _ iha ihb n hk => (iha n (hk _ (.head _))).elim fun as q => (ihb n fun v hv => hk v (.tail _ hv)).elim fun bs p => ⟨_, .cons q p⟩)
theorem reads_pd {h₀ h : Heap} {L : Addr} {nw : Led} {ad : Ads} (N : News h₀ L h nw) {v : PV} {u : Value} (n : Nat) (r : VR ad nw v u) (hk : PV.flat n v = true) : ∃ as, Reads h u (pd v) as := (reads_both N).1 r n hk
theorem readsL_pd {h₀ h : Heap} {L : Addr} {nw : Led} {ad : Ads} (N : News h₀ L h nw) {l : List PV} {us : List Value} (n : Nat) (r : VRs ad nw l us) (hk : ∀ v ∈ l, PV.flat n v = true) : ∃ as, ReadsAll h us (pdL l) as := (reads_both N).2 r n hk

theorem shaped_pd {v : PV} (h : PV.flat 60 v = true) : SeqAt.shaped (pd v) = true := by
  have q := lay_pd v 60 h
  unfold SeqAt.shaped
  rw [q.1, Bool.true_and]
  exact decide_eq_true (by omega)
theorem shapedL_pd {l : List PV} (h : ∀ v ∈ l, PV.flat 60 v = true) : SeqAt.shaped (.list (pdL l)) = true := by
  have q := layL_pd l 60 h
  unfold SeqAt.shaped
  rw [PyData.canLay0, q.1, Bool.true_and]
  exact decide_eq_true (by rw [PyData.depth]; omega)

section
variable {c : FC} {n : Nat} {f : Fm}
  {s : Shared} {m : Str → Option Value} {nw : Led} {ad : Ads} {ρ : Loc} {σ : Hp} {Q : Value → Shared → Prop} {E : Value → Shared → Prop} {a b : PV} {u v : Value} {A : Around}

theorem op_eqV {r : Bool} (I : Inv c f m nw ad ρ σ s.heap) (ra : VR ad nw a u) (rb : VR ad nw b v) (e : eqV a b σ = some r) (hu : A.units + 64 < cLine) :
    (Q (.bool r) s → wpAny (model c.prog c.w) A (compareOp .Eq u v) Q E s) ∧ (Q (.bool (!r)) s → wpAny (model c.prog c.w) A (compareOp .NotEq u v) Q E s) := by
  unfold eqV at e
  split at e
  · cases ra with
    | obj ha =>
      cases rb with
      | obj hb =>
        split at e
        · rename_i x y ex ey
          split at e
          · rename_i hf
            simp only [Bool.and_eq_true, List.all_eq_true] at hf
            obtain ⟨vs, k, h1, h2, h3, _⟩ := I.listAt ex ha
            obtain ⟨ws, l, g1, g2, g3, _⟩ := I.listAt ey hb
            obtain ⟨as, qa⟩ := readsL_pd I.N 60 h2 hf.1
            obtain ⟨bs, qb⟩ := readsL_pd I.N 60 g2 hf.2
            have er : PyData.eqv (.list (pdL x)) (.list (pdL y)) = r := by
              rw [PyData.eqv, eqvL_pd x y 60 60 hf.1 hf.2]; exact Option.some.inj e
            have ra' : Reads s.heap _ (.list (pdL x)) _ := .list (I.N _ h1).1 rfl rfl (by simpa using qa)
            have rb' : Reads s.heap _ (.list (pdL y)) _ := .list (I.N _ g1).1 rfl rfl (by simpa using qb)
            exact ⟨fun h => eq_dataH ra' rb' (shapedL_pd hf.1) (shapedL_pd hf.2) hu (by rw [er]; exact h),
              fun h => ne_dataH ra' rb' (shapedL_pd hf.1) (shapedL_pd hf.2) hu (by rw [er]; exact h)⟩
          · cases e
        · cases e
  · split at e
    · rename_i hf
      simp only [Bool.and_eq_true] at hf
      obtain ⟨as, qa⟩ := reads_pd I.N 60 ra hf.1
      obtain ⟨bs, qb⟩ := reads_pd I.N 60 rb hf.2
      have er : PyData.eqv (pd a) (pd b) = r := by
        rw [eqv_pd a b 60 60 hf.1 hf.2]; exact Option.some.inj e
      exact ⟨fun h => eq_dataH qa qb (shaped_pd hf.1) (shaped_pd hf.2) hu (by rw [er]; exact h),
        fun h => ne_dataH qa qb (shaped_pd hf.1) (shaped_pd hf.2) hu (by rw [er]; exact h)⟩
    · cases e

theorem op_cmp {op : COp} (I : Inv c f m nw ad ρ σ s.heap) (ra : VR ad nw a u) (rb : VR ad nw b v) (hu : A.units + 64 < cLine) (H : Post VR c f m ad nw ρ s Q E (cmpV op a b σ)) :
    wpAny (model c.prog c.w) A (compareOp (copE op) u v) Q E s := by
  cases op with
  | eq =>
    obtain ⟨r, e, H⟩ := Post.onSome H
    exact (op_eqV I ra rb e hu).1 (H.here (tk := s.toks) I (.bool _))
  | ne =>
    obtain ⟨r, e, H⟩ := Post.onSome H
    exact (op_eqV I ra rb e hu).2 (H.here (tk := s.toks) I (.bool _))
  | lt => obtain ⟨x, y, t, t', rfl, rfl, H⟩ := Post.two ra rb H; exact lt_int (H.here (tk := s.toks) I (.bool _))
  | le => obtain ⟨x, y, t, t', rfl, rfl, H⟩ := Post.two ra rb H; exact le_int (H.here (tk := s.toks) I (.bool _))
  | gt => obtain ⟨x, y, t, t', rfl, rfl, H⟩ := Post.two ra rb H; exact gt_int (H.here (tk := s.toks) I (.bool _))
  | ge => obtain ⟨x, y, t, t', rfl, rfl, H⟩ := Post.two ra rb H; exact ge_int (H.here (tk := s.toks) I (.bool _))

theorem any_pd {a : PV} : ∀ {l : List PV} (n k : Nat), PV.flat n a = true → (∀ y ∈ l, PV.flat k y = true) → ((pdL l).any fun y => PyData.eqv y (pd a)) = l.any fun y => PV.eqb y a
  | [], _, _, _, _ => rfl
  | y :: l, n, k, ha, hl => by
    rw [pdL, List.any_cons, List.any_cons, eqv_pd y a k n (hl y (.head _)) ha, any_pd n k ha fun z hz => hl z (.tail _ hz)]

theorem op_in {l : List PV} {r : Bool} (I : Inv c f m nw ad ρ σ s.heap) (ra : VR ad nw a u) (rb : VR ad nw (.tup l) v) (e : inL a l = some r) (hu : A.units + 64 < cLine) :
    (Q (.bool r) s → wpAny (model c.prog c.w) A (compareOp .In u v) Q E s) ∧ (Q (.bool (!r)) s → wpAny (model c.prog c.w) A (compareOp .NotIn u v) Q E s) := by
  unfold inL at e
  split at e
  · rename_i hf
    simp only [Bool.and_eq_true, List.all_eq_true] at hf
    obtain ⟨as, qa⟩ := reads_pd I.N 20 ra hf.1
    cases rb with
    | tup hm hl r' =>
      obtain ⟨bs, qb⟩ := readsL_pd I.N 20 r' hf.2
      have la := lay_pd a 20 hf.1
      have lb := layL_pd l 20 hf.2
      have rt : Reads s.heap _ (.tuple (pdL l)) _ := .tuple (I.N _ hm).1 rfl rfl (by simpa using qb)
      have er : ((pdL l).any fun y => PyData.eqv y (pd a)) = r := by rw [any_pd 20 20 hf.1 hf.2]; exact Option.some.inj e
      have hu' : A.units + 1 + min (PyData.depthAll (pdL l)) (pd a).depth < cLine := by
        have := Nat.min_le_right (PyData.depthAll (pdL l)) (pd a).depth
        omega
      exact ⟨fun h => SeqAt.in_tuple_reads rt qa lb.1 la.1 hu' (by rw [er]; exact h), fun h => SeqAt.notIn_tuple_reads rt qa lb.1 la.1 hu' (by rw [er]; exact h)⟩
  · cases e
end
end Mine
end
section
/-! Soundness, part 5: subscripts, attributes, len, list(..), tuple(..), slices, append, pop, stores. -/
open PySem PySem.W PySem.Calls PyProof.Rows
set_option maxRecDepth 100000
set_option linter.unusedVariables false
namespace Mine

theorem pyIdx_eq (k : Int) (n : Nat) : pyIdx k n = seqIndex? k n := by
  unfold pyIdx seqIndex?
  simp

theorem subscripted_plain {slice : PySem.Expr} (h : notSlice slice = true) (o i : Value) : subscripted slice false o i = operate [o, i] (getItem o i) := by
  cases slice <;> first | rfl | exact nomatch h

theorem KR.find {ad : Ads} {nw : Led} {x : String} {l : List (String × PV)} {kvs : List (Str × Value)} (h : KR ad nw l kvs) : ∀ {v : PV}, getKey x l = some v → ∃ u, valueAt kvs (S x) = some u ∧ VR ad nw v u := by
  induction h with
  | nil => exact fun h => nomatch h
  | @cons k w l u es a b ih =>
    intro v h
    replace h : (if k = x then some w else getKey x l) = some v := h
    unfold valueAt
    rw [List.find?_cons]
    by_cases e : k = x
    · subst e
      rw [if_pos rfl] at h
      rw [show decide (S k = S k) = true from decide_eq_true rfl]
      exact ⟨u, rfl, Option.some.inj h ▸ a⟩
    · rw [if_neg e] at h
      rw [show decide (S k = S x) = false from decide_eq_false fun z => e (S_inj z)]
      exact ih h

section
variable {c : FC} {n : Nat} {f : Fm}
  {s : Shared} {m : Str → Option Value} {nw : Led} {ad : Ads} {ρ : Loc} {σ : Hp} {Q : Value → Shared → Prop} {E : Value → Shared → Prop} {a b : PV} {u v : Value} {A : Around}

theorem ifSome {p : Prop} [Decidable p] {α : Type} {x y : α} (h : (if p then some x else Option.none) = some y) : p ∧ x = y := by
  by_cases hp : p
  · rw [if_pos hp] at h; exact ⟨hp, Option.some.inj h⟩
  · rw [if_neg hp] at h; exact nomatch h
theorem Post.getL {l : List PV} {k : Int} (H : Post VR c f m ad nw ρ s Q E (Mine.getL l k σ)) : k.natAbs ≤ 1000000000000 ∧ ∃ x j, pyIdx k l.length = some j ∧ l[j]? = some x ∧ Post VR c f m ad nw ρ s Q E (.ok x σ) := by
  obtain ⟨hk, H1⟩ := Post.onIf H
  obtain ⟨x, hx, H2⟩ := Post.onSome (k := fun v => Res.ok v σ) H1
  obtain ⟨j, hj, hx⟩ := Option.bind_eq_some_iff.mp hx
  exact ⟨hk, x, j, hj, hx, H2⟩
theorem op_subObj {value slice : PySem.Expr} (hs : notSlice slice = true) (I : Inv c f m nw ad ρ σ s.heap) {i : Nat} {x d : Addr} (ha : ad[i]? = some (x, d)) (rb : VR ad nw b v) (H : Post VR c f m ad nw ρ s Q E (subObj i b σ)) :
    wpAny (model c.prog c.w) A (subscriptTail value slice (.ref x) v) Q E s := by
  cases rb with
  | int k t =>
    obtain ⟨l, el, H1⟩ := Post.onSome H
    obtain ⟨vs, hl, r, h3⟩ := I.seqAt el ha
    obtain ⟨hk, y, j, hj, hx, H2⟩ := Post.getL H1
    obtain ⟨z, hz, rr⟩ := r.get hx
    have hlen := r.length
    have hj2 : (if k < 0 then k + l.length else k).toNat = j ∧ 0 ≤ (if k < 0 then k + (l.length : Int) else k) := by
      obtain ⟨hb, hj⟩ := ifSome hj
      rw [Bool.and_eq_true, decide_eq_true_eq, decide_eq_true_eq] at hb
      exact ⟨hj, hb.1⟩
    by_cases hneg : k < 0
    · rw [if_pos hneg] at hj2
      exact tail_any hl.typeIs slot_list_getitem.lookup (wpAny_getItem_list_neg hl hneg (by rw [List.size_toArray]; omega) (by omega) (by rw [List.size_toArray, hlen, hj2.1, List.getElem?_toArray]; exact hz) (H2.here (tk := s.toks) I rr)) (subscripted_plain hs _ _)
    · rw [if_neg hneg] at hj2
      exact tail_any hl.typeIs slot_list_getitem.lookup (wpAny_getItem_list hl (by omega) (by omega) (by rw [hj2.1, List.getElem?_toArray]; exact hz) (H2.here (tk := s.toks) I rr)) (subscripted_plain hs _ _)
  | str y t =>
    obtain ⟨l, el, H1⟩ := Post.onSome H
    obtain ⟨o, kvs, h1, hd, kr, h3, _⟩ := I.dictAt el ha
    obtain ⟨w, hv, H2⟩ := Post.onSome H1
    obtain ⟨z, hz, rr⟩ := kr.find hv
    have hD : s.heap.DictOf (strKind c.prog c.w) _ kvs := Heap.dictOf_iff.mpr ⟨o, (I.N _ h1).1, hd⟩
    exact tail_any hD.mapOf.typeIs slot_dict_getitem.lookup (wpAny_getItem_of (strKind_is c.prog c.w (S y) _) hD.mapOf hz (H2.here (tk := s.toks + 1) I rr)) (subscripted_plain hs _ _)
  | none => exact H.elim
  | bool => exact H.elim
  | tup => exact H.elim
  | obj => exact H.elim
theorem op_sub {value slice : PySem.Expr} (hs : notSlice slice = true) (I : Inv c f m nw ad ρ σ s.heap) (ra : VR ad nw a u) (rb : VR ad nw b v) (H : Post VR c f m ad nw ρ s Q E (subV a b σ)) :
    wpAny (model c.prog c.w) A (subscriptTail value slice u v) Q E s := by
  cases ra with
  | none => exact H.elim
  | bool => exact H.elim
  | int => exact H.elim
  | @tup l _ _ _ hm hl r =>
    obtain ⟨k, eb, H1⟩ := Post.onInt H
    subst eb
    cases rb
    obtain ⟨hk, x, j, hj, hx, H2⟩ := Post.getL H1
    rw [pyIdx_eq] at hj
    obtain ⟨y, hy, rr⟩ := r.get hx
    exact item_tupleT (led_tup I.N hm) (by omega) (by omega) (by rw [r.length]; exact hj) hy (H2.here (tk := s.toks) I rr) (subscripted_plain hs _ _)
  | str x t =>
    obtain ⟨k, eb, H1⟩ := Post.onInt H
    subst eb
    cases rb
    obtain ⟨hk, H2⟩ := Post.onIf H1
    obtain ⟨ch, hc, H3⟩ := Post.onSome H2
    obtain ⟨j, hj, hc⟩ := Option.bind_eq_some_iff.mp hc
    rw [pyIdx_eq] at hj
    have hget : (S x).cps[j]? = some ch.toNat := by
      rw [← Array.getElem?_toList, S_cps, List.getElem?_map, hc]; rfl
    refine tail_any (typeIs_str s _ _) slot_str_getitem.lookup (P.getItem_str (c := ch.toNat) ?_ ?_ ?_) (subscripted_plain hs _ _)
    · rw [Bool.or_eq_false_iff, decide_eq_false_iff_not, decide_eq_false_iff_not]; omega
    · rw [S_length, hj]; exact hget
    · have e : (⟨#[ch.toNat]⟩ : Str) = S (String.singleton ch) := by
        refine Str.ext' (Array.toList_inj.mp ?_)
        rw [S_cps]; simp
      rw [e]
      exact H3.here (tk := s.toks + 1) I (.str _ _)
  | obj ha => exact op_subObj hs I ha rb H

/-- what is asked of the parser's class, read off the written heap -/
structure CsOk (c : FC) : Prop where
  get : ∀ x, plainGet c.K c.C x = true
  hd : hasDictIn c.K c.C = true
  set : findIn c.K (.ref c.C) "__setattr__" = some (some (.builtin "object.__setattr__"))
  over : plainOver c.K c.C = true
  attrs : ∀ x ∈ attrNames, findIn c.K (.ref c.C) (S x) = some none ∧ takerIn c.K c.C (S x) = some none

theorem DR.find {P : Params} {ad : Ads} {nw : Led} {x : String} : ∀ {l : List (String × PV)} {es : List DictEntry}, DR P ad nw l es →
    (∀ {v : PV}, getKey x l = some v → ∃ u, W.getL (S x) es = some (some u) ∧ VR ad nw v u) ∧ (getKey x l = none → W.getL (S x) es = some none)
  | _, _, .nil => ⟨fun h => by simp [getKey] at h, fun _ => rfl⟩
  | _, _, .cons (k := k) (t := t) (u := u) (es := es) a b => by
    have ih := DR.find (x := x) b
    have key : (Value.str (S k) t).isStr (S x) = (k == x) := by show (S k == S x) = _; exact S_beq k x
    have ref : (⟨PyData.keyHash P (S k), .str (S k) t, u⟩ : DictEntry).refKey = false := rfl
    by_cases e : k = x
    · subst e
      refine ⟨fun h => ?_, fun h => ?_⟩
      · unfold getKey at h; rw [if_pos rfl] at h; cases h
        refine ⟨u, ?_, a⟩
        unfold W.getL
        rw [List.find?_cons, key]; simp
      · unfold getKey at h; rw [if_pos rfl] at h; cases h
    · have ke : (k == x) = false := by simpa using e
      have step : W.getL (S x) (⟨PyData.keyHash P (S k), .str (S k) t, u⟩ :: es) = W.getL (S x) es := by
        unfold W.getL
        rw [List.find?_cons, key, ke, List.any_cons, ref, Bool.false_or]
      rw [step]
      unfold getKey
      rw [if_neg e]
      exact ih
theorem DR.put {P : Params} {ad : Ads} {nw : Led} {x : String} {v : PV} {u : Value} {t : Tok} (r : VR ad nw v u) : ∀ {l : List (String × PV)} {es : List DictEntry}, DR P ad nw l es →
    DR P ad nw (putKey x v l) (putL (S x) (PyData.keyHash P (S x)) (.str (S x) t) u es)
  | _, _, .nil => .cons r .nil
  | _, _, .cons (k := k) (t := t') a b => by
    have key : (Value.str (S k) t').isStr (S x) = (k == x) := by show (S k == S x) = _; exact S_beq k x
    unfold putKey putL
    dsimp only
    rw [key]
    by_cases e : k = x
    · subst e
      rw [if_pos rfl, if_pos (by simp)]
      exact .cons r b
    · rw [if_neg e, if_neg (by simpa using e)]
      exact .cons a (DR.put r b)
theorem putL_length {x : Str} {hs : Int} {k v : Value} : ∀ es : List DictEntry, (putL x hs k v es).length ≤ es.length + 1
  | [] => by simp [putL]
  | e :: r => by
    unfold putL
    split
    · simp
    · have := putL_length (x := x) (hs := hs) (k := k) (v := v) r
      simp only [List.length_cons]; omega
theorem putKey_length {x : String} {v : PV} : ∀ l : List (String × PV), (putKey x v l).length ≤ l.length + 1
  | [] => by simp [putKey]
  | (y, u) :: r => by
    unfold putKey
    split
    · simp
    · have := putKey_length (x := x) (v := v) r
      simp only [List.length_cons]; omega
theorem DR.length {P : Params} {ad : Ads} {nw : Led} {l : List (String × PV)} {es : List DictEntry} (h : DR P ad nw l es) : es.length = l.length := by
  induction h with
  | nil => rfl
  | cons _ _ ih => exact congrArg (· + 1) ih

theorem handed_VR {ad : Ads} {nw : Led} {v : PV} {u : Value} (r : VR ad nw v u) : handedIn u = true := by cases r <;> rfl

theorem op_attr {x : String} {ex : Bool} (ok : FmOk c n f) (cs : CsOk c) (hx : x ∈ attrNames) (I : Inv c f m nw ad ρ σ s.heap) (ra : VR ad nw a u) (H : Post VR c f m ad nw ρ s Q E (attrV a x σ)) :
    wpAny (model c.prog c.w) A (getAttr u (S x) ex) Q E s := by
  unfold attrV at H
  split at H
  · cases ra with
    | obj ha =>
      split at H
      · rename_i l el
        obtain ⟨es, k, h1, h2, dr, _⟩ := I.instAt el ha
        split at H
        · rename_i v hv
          obtain ⟨y, hy, rr⟩ := dr.find.1 hv
          exact get_own I.F ok.X (InstAt.of_news I.N h1 h2) (cs.get _) cs.hd (cs.attrs x hx).1 rfl hy (handed_VR rr) (H.here (tk := s.toks + 1) I rr)
        · exact H.elim
      · exact H.elim
  · exact H.elim

theorem opU_setAttr {x : String} {QU : Unit → Shared → Prop} (ok : FmOk c n f) (cs : CsOk c) (hx : x ∈ attrNames) (I : Inv c f m nw ad ρ σ s.heap) (ra : VR ad nw a u) (rb : VR ad nw b v)
    (H : Post (fun _ _ _ _ => True) c f m ad nw ρ s QU E (setAttrV a x b σ)) : wpAny (model c.prog c.w) A (setAttr u (S x) v) QU E s := by
  unfold setAttrV at H
  split at H
  · rename_i i
    cases ra with
    | @obj _ xa dx ha =>
      split at H
      · rename_i l el
        split at H
        · rename_i hlen
          obtain ⟨es, k, h1, h2, dr, _⟩ := I.instAt el ha
          have hσ : σ[i]? = some (.inst l) := by
            unfold Mine.instAt at el
            split at el
            · rename_i q; cases el; exact q
            · cases el
          have hlen' := dr.length
          obtain ⟨news, news', N, U, close⟩ := I.growU (dictOf (putL (S x) (PyData.keyHash c.w.params (S x)) (.str (S x) (s.toks + 1)) v es) (putN (S x) es k)) h2
          have hg : (W.getL (S x) es).isSome = true := by
            cases e : getKey x l with
            | none => rw [dr.find.2 e]; rfl
            | some y => obtain ⟨w, hw, _⟩ := dr.find.1 e; rw [hw]; rfl
          have hput := putL_length (x := S x) (hs := PyData.keyHash c.w.params (S x)) (k := .str (S x) (s.toks + 1)) (v := v) es
          refine set_dict I.F ok.X N (InstAt.of_news I.N h1 h2) rfl cs.set cs.over (cs.attrs x hx).2 cs.hd hg rfl U (by omega) fun h' F' N' => ?_
          obtain ⟨N₁, sf₁⟩ := close h' F' N'
          have ne : xa ≠ dx := fun e => by
            subst e
            have := nodup_get I.nd h1 h2
            cases this
          have tup : ∀ a vs n, (a, tupObj vs n) ∈ nw → (a, tupObj vs n) ∈ updL nw dx (dictOf (putL (S x) (PyData.keyHash c.w.params (S x)) (.str (S x) (s.toks + 1)) v es) (putN (S x) es k)) := fun a vs n hm =>
            (mem_updL_ne fun (e : a = dx) => by subst e; have := nodup_get I.nd hm h2; simp at this).mpr hm
          have pk := putKey_length (x := x) (v := b) l
          obtain ⟨I', X⟩ := I.change0 (po' := .inst (putKey x b l)) ha hσ (.inr rfl) h2 F' N₁ sf₁
            ⟨_, _, (mem_updL_ne ne).mpr h1, mem_updL_self h2, (dr.put rb).mono (fun _ _ e => e) tup, by omega⟩
          exact H h' (s.toks + 2) _ ad () I' X trivial
        · exact H.elim
      · exact H.elim
  · exact H.elim

theorem listAt_at {i : Nat} {l : List PV} (el : listAt σ i = some l) : σ[i]? = some (.list l) := by
  unfold Mine.listAt at el
  split at el
  · rename_i q; cases el; exact q
  · cases el
theorem dictAt_at {i : Nat} {l : List (String × PV)} (el : dictAt σ i = some l) : σ[i]? = some (.dict l) := by
  unfold Mine.dictAt at el
  split at el
  · rename_i q; cases el; exact q
  · cases el

theorem op_append (I : Inv c f m nw ad ρ σ s.heap) (ra : VR ad nw a u) (rb : VR ad nw b v) (H : Post VR c f m ad nw ρ s Q E (appendV a b σ)) :
    wpAny (model c.prog c.w) A (call (.builtin "list.append") [u, v]) Q E s := by
  unfold appendV at H
  split at H
  · rename_i i
    cases ra with
    | @obj _ xa dx ha =>
      split at H
      · rename_i l el
        split at H
        · rename_i hlen
          obtain ⟨vs, k, h1, r, h3, hd⟩ := I.listAt el ha
          subst hd
          refine append_at (I.N _ h1).1 (fun h' hs ho' => ?_) (by rw [List.size_toArray, r.length, sizeLine_eq]; omega)
          have e : vs.toArray.push v = (vs ++ [v]).toArray := by simp
          rw [e] at ho'
          have tup : ∀ a vs' n, (a, tupObj vs' n) ∈ nw → (a, tupObj vs' n) ∈ updL nw dx (listOf (vs ++ [v]).toArray (k + 1)) := fun a vs' n hm =>
            (mem_updL_ne fun (e : a = dx) => by subst e; have := nodup_get I.nd hm h1; simp at this).mpr hm
          obtain ⟨I', X⟩ := I.change (po' := .list (l ++ [b])) ha (listAt_at el) (.inl rfl) h1 hs ho'
            ⟨_, _, mem_updL_self h1, (r.append (.cons rb .nil)).mono (fun _ _ e => e) tup, by simp; omega, rfl⟩
          exact H h' s.toks _ ad _ I' X .none
        · exact H.elim
      · exact H.elim
  · exact H.elim

theorem VRs.getLast {ad : Ads} {nw : Led} {l : List PV} {vs : List Value} (r : VRs ad nw l vs) {v : PV} (h : l.getLast? = some v) : ∃ u, vs.getLast? = some u ∧ VR ad nw v u := by
  rw [List.getLast?_eq_getElem?] at h
  obtain ⟨u, hu, q⟩ := r.get h
  exact ⟨u, by rw [List.getLast?_eq_getElem?, r.length]; exact hu, q⟩

theorem op_pop (I : Inv c f m nw ad ρ σ s.heap) (ra : VR ad nw a u) (H : Post VR c f m ad nw ρ s Q E (popV a σ)) :
    wpAny (model c.prog c.w) A (call (.builtin "list.pop") [u]) Q E s := by
  unfold popV at H
  split at H
  · rename_i i
    cases ra with
    | @obj _ xa dx ha =>
      split at H
      · rename_i l el
        split at H
        · rename_i y hy
          obtain ⟨vs, k, h1, r, h3, hd⟩ := I.listAt el ha
          subst hd
          obtain ⟨w, hw, rw'⟩ := r.getLast hy
          have hlast : vs.toArray[vs.toArray.size - 1]? = some w := by
            rw [List.size_toArray, List.getElem?_toArray, ← List.getLast?_eq_getElem?]; exact hw
          refine Copied.pop_at (I.N _ h1).1 hlast (fun h' hs ho' => ?_) (by rw [List.size_toArray, r.length, sizeLine_eq]; omega)
          have e : vs.toArray.pop = vs.dropLast.toArray := List.pop_toArray ..
          rw [e] at ho'
          have tup : ∀ a vs' n, (a, tupObj vs' n) ∈ nw → (a, tupObj vs' n) ∈ updL nw dx (listOf vs.dropLast.toArray (k + 1)) := fun a vs' n hm =>
            (mem_updL_ne fun (e : a = dx) => by subst e; have := nodup_get I.nd hm h1; simp at this).mpr hm
          have r2 : VRs ad nw l.dropLast vs.dropLast := by
            have := r.take (l.length - 1)
            rw [← List.dropLast_eq_take, ← r.length, ← List.dropLast_eq_take] at this
            exact this
          obtain ⟨I', X⟩ := I.change (po' := .list l.dropLast) ha (listAt_at el) (.inl rfl) h1 hs ho'
            ⟨_, _, mem_updL_self h1, r2.mono (fun _ _ e => e) tup, by rw [List.length_dropLast]; omega, rfl⟩
          exact H h' s.toks _ ad _ I' X (rw'.ext X)
        · exact H.elim
      · exact H.elim
  · exact H.elim

theorem op_len (I : Inv c f m nw ad ρ σ s.heap) (ra : VR ad nw a u) (H : Post VR c f m ad nw ρ s Q E (lenV a σ)) :
    wpAny (model c.prog c.w) A (call (.builtin "len") [u]) Q E s := by
  unfold lenV at H
  split at H
  · cases ra with
    | tup hm hl r =>
      have e := r.length
      refine len_tuple (led_tup I.N hm) (by rw [List.size_toArray]; omega) ?_
      rw [List.size_toArray, e]
      exact H.here (tk := s.toks + 1 + 1) I (.int _ _)
  · cases ra with
    | obj ha =>
      split at H
      · rename_i l el
        obtain ⟨vs, hl, r, h3⟩ := I.seqAt el ha
        have e := r.length
        refine PyProof.Rows.len_list hl (by rw [List.size_toArray]; omega) ?_
        rw [List.size_toArray, e]
        exact H.here (tk := s.toks + 1 + 1) I (.int _ _)
      · exact H.elim
  · exact H.elim

theorem op_listOf (I : Inv c f m nw ad ρ σ s.heap) (ra : VR ad nw a u) (H : Post VR c f m ad nw ρ s Q E (listOfV a σ)) :
    wpAny (model c.prog c.w) A (call (.type "list") [u]) Q E s := by
  unfold listOfV at H
  split at H
  · cases ra with
    | obj ha =>
      split at H
      · rename_i l el
        obtain ⟨vs, k, h1, r, h3, hd⟩ := I.listAt el ha
        obtain ⟨news, N, sub, close⟩ := I.grow1
        exact list_copyK I.F N (led_list I.N h1) (fun D k' h' F' N' lt => H.newList (tk := s.toks) I r h3 (fun p hp => lt p (sub p hp)) (close h' _ _ F' N' lt)) (by rw [List.size_toArray, r.length, sizeLine_eq]; omega)
      · exact H.elim
  · exact H.elim

theorem op_tupleOf (I : Inv c f m nw ad ρ σ s.heap) (ra : VR ad nw a u) (H : Post VR c f m ad nw ρ s Q E (tupleOfV a σ)) :
    wpAny (model c.prog c.w) A (call (.type "tuple") [u]) Q E s := by
  unfold tupleOfV at H
  split at H
  · cases ra with
    | obj ha =>
      split at H
      · rename_i l el
        obtain ⟨vs, k, h1, r, h3, hd⟩ := I.listAt el ha
        refine call_tuple_list (led_list I.N h1) (fun h' keep => ?_) (by rw [List.size_toArray, r.length, sizeLine_eq]; omega)
        exact H.newTup (tk := s.toks) r h3 ((I.keeps keep).push (tupObj vs 0) rfl)
      · exact H.elim
  · exact H.elim

theorem KR.stored {ad : Ads} {nw : Led} {x : String} {v : PV} {u : Value} (r : VR ad nw v u) : ∀ {l : List (String × PV)} {kvs : List (Str × Value)}, KR ad nw l kvs → (getKey x l).isSome = true → (kvs.map (·.1)).Nodup →
    KR ad nw (putKey x v l) (stored kvs (S x) u) := by
  have ins : ∀ {l : List (String × PV)} {kvs : List (Str × Value)}, KR ad nw l kvs → (∀ p ∈ kvs, p.1 ≠ S x) → KR ad nw l (kvs.map fun kv => if kv.1 = S x then (kv.1, u) else kv) := by
    intro l kvs hk hn
    have : (kvs.map fun kv => if kv.1 = S x then (kv.1, u) else kv) = kvs := (List.map_congr_left (g := id) fun q hq => if_neg (hn q hq)).trans (List.map_id _)
    rw [this]; exact hk
  have main : ∀ {l : List (String × PV)} {kvs : List (Str × Value)}, KR ad nw l kvs → (getKey x l).isSome = true → (kvs.map (·.1)).Nodup →
      KR ad nw (putKey x v l) (kvs.map fun kv => if kv.1 = S x then (kv.1, u) else kv) ∧ kvs.any (fun kv => kv.1 = S x) = true := by
    intro l kvs hk
    induction hk with
    | nil => intro h; simp [getKey] at h
    | @cons k w l u' es a b ih =>
      intro h nd
      simp only [List.map_cons, List.nodup_cons] at nd
      unfold getKey at h
      unfold putKey
      by_cases e : k = x
      · subst e
        rw [if_pos rfl, List.map_cons, List.any_cons]
        refine ⟨?_, by simp⟩
        dsimp only
        rw [if_pos rfl]
        refine .cons r (ins b fun p hp q => nd.1 ?_)
        exact List.mem_map.mpr ⟨p, hp, q⟩
      · rw [if_neg e] at h ⊢
        obtain ⟨q1, q2⟩ := ih h nd.2
        rw [List.map_cons, List.any_cons]
        refine ⟨?_, by rw [q2, Bool.or_true]⟩
        dsimp only
        rw [if_neg fun z => e (S_inj z)]
        exact .cons a q1
  intro l kvs hk h nd
  obtain ⟨q1, q2⟩ := main hk h nd
  unfold PySem.stored
  rw [if_pos q2]
  exact q1

theorem KR.length {ad : Ads} {nw : Led} {l : List (String × PV)} {kvs : List (Str × Value)} (h : KR ad nw l kvs) : kvs.length = l.length := by
  induction h with
  | nil => rfl
  | cons _ _ ih => exact congrArg (· + 1) ih

theorem putKey_length_of {x : String} {v : PV} : ∀ {l : List (String × PV)}, (getKey x l).isSome = true → (putKey x v l).length = l.length
  | [], h => by simp [getKey] at h
  | (y, u) :: r, h => by
    unfold getKey at h
    unfold putKey
    by_cases e : y = x
    · rw [if_pos e]; simp
    · rw [if_neg e] at h ⊢
      simp [putKey_length_of h]

theorem opU_setItem {x : String} {t : Tok} {QU : Unit → Shared → Prop} (I : Inv c f m nw ad ρ σ s.heap) (ra : VR ad nw a u) (rb : VR ad nw b v)
    (H : Post (fun _ _ _ _ => True) c f m ad nw ρ s QU E (setItemV a x b σ)) : wpAny (model c.prog c.w) A (setItem u (.str (S x) t) v) QU E s := by
  unfold setItemV at H
  split at H
  · rename_i i
    cases ra with
    | @obj _ xa dx ha =>
      split at H
      · rename_i l el
        split at H
        · rename_i hk
          obtain ⟨o, kvs, h1, hD, kr, h3, hd⟩ := I.dictAt el ha
          subst hd
          have hDo : s.heap.DictOf (strKind c.prog c.w) _ kvs := Heap.dictOf_iff.mpr ⟨o, (I.N _ h1).1, hD⟩
          refine wpAny_setItem_pairs (strKind_is c.prog c.w (S x) t) hDo (fun h' hD' hs => ?_) (by rw [kr.length, sizeLine_eq]; omega)
          obtain ⟨o', ho', hD''⟩ := Heap.dictOf_iff.mp hD'
          have nt : ∀ vs n, o ≠ tupObj vs n := fun vs n e => by
            obtain ⟨_, _, hx, _⟩ := hD
            have := hx.1; rw [e] at this; simp at this
          have tup : ∀ a vs' n, (a, tupObj vs' n) ∈ nw → (a, tupObj vs' n) ∈ updL nw dx o' := fun a vs' n hm =>
            (mem_updL_ne fun (e : a = dx) => by subst e; exact nt _ _ (nodup_get I.nd h1 hm)).mpr hm
          have nd : (kvs.map (·.1)).Nodup := by obtain ⟨_, _, _, _, _, _, z⟩ := hD; exact z
          obtain ⟨I', X⟩ := I.change (po' := .dict (putKey x b l)) ha (dictAt_at el) (.inl rfl) h1 hs ho'
            ⟨o', _, mem_updL_self h1, hD'', (KR.stored rb kr hk nd).mono (fun _ _ e => e) tup, by rw [putKey_length_of hk]; exact h3, rfl⟩
          exact H h' (s.toks + 1) _ ad () I' X trivial
        · exact H.elim
      · exact H.elim
  · exact H.elim
end
end Mine
end
section
/-! Soundness, part 6: the terms, one by one. -/
open PySem PySem.W PySem.Calls PyProof.Rows
set_option maxRecDepth 100000
set_option linter.unusedVariables false
namespace Mine

/-- a tuple of flat things at the top -/
noncomputable def TopTup (c : FC) (x : String) (l : List PV) : Prop := ∃ a vs dd n sl, nsIn c.K mainGlobals (S x) = some (some (.ref a)) ∧ c.K.lookup a = some ⟨.type "tuple", dd, .seq (List.toArray vs) n, sl⟩ ∧ VRs [] [] l vs
/-- a dict by texts at the top -/
noncomputable def TopDict (c : FC) (x : String) (l : List (String × PV)) : Prop := ∃ a es n, nsIn c.K mainGlobals (S x) = some (some (.ref a)) ∧ c.K.lookup a = some ⟨.type "dict", none, .dict (List.toArray es) n, #[]⟩ ∧ DR c.w.params [] [] l es ∧ (a == sysModules) = false

noncomputable def FnAt (c : FC) (x : String) (a : Addr) : Prop := nsIn c.K mainGlobals (S x) = some (some (.ref a)) ∧ keepIn c.K (.ref a) = true
noncomputable def MethAt (c : FC) (x : String) (a : Addr) : Prop := findIn c.K (.ref c.C) (S x) = some (some (.ref a)) ∧ isFn c.K (.ref a) = true ∧ keepIn c.K (.ref a) = true

/-- the names that the text reads, as the written heap has them -/
structure SyOk (c : FC) (k : Ck) : Prop where
  fns : ∀ x ∈ k.fns, ∃ a, FnAt c x a
  ms : ∀ x ∈ k.ms, ∃ a, MethAt c x a
  gi : ∀ x i, gintT x = some i → ∃ t, nsIn c.K mainGlobals (S x) = some (some (.int i t))
  gt : ∀ x l, gtup x = some l → TopTup c x l
  gd : ∀ x l, gdict x = some l → TopDict c x l
  bs : ∀ x ∈ ["len", "list", "tuple", "abs", "range"], nsIn c.K mainGlobals (S x) = some none
  cls : nsIn c.K mainGlobals (S "ExprParser") = some (some (.ref c.C)) ∧ keepIn c.K (.ref c.C) = true

section
variable {c : FC} {n : Nat} {f : Fm}

theorem s_truth {e : PySem.Expr} {g : Loc → Hp → Res PV} (h : SoundE c f e g) (he : isTrue e f.env (eval e f.env) = (do let v ← eval e f.env; standAt e.pos; holding [v] (truthy v))) :
    SoundT c f e fun ρ σ => testR (g ρ σ) := fun {s m nw ad ρ σ Q E} I H => by
  refine isTrue_plain (h I (Post.bind (R' := VR) H fun v σ₁ h₁ tk₁ nw₁ ad₁ u I₁ X₁ r H₁ => ?_)) he
  unfold truth at H₁
  split at H₁
  · rename_i b hb
    split at hb
    · cases hb; cases r
      exact wpAny_truthy_bool (Post.here (tk := tk₁) H₁ I₁ rfl)
    · cases hb
  · exact H₁.elim

theorem s_bin {l r : PySem.Expr} {pos} {op : AOp} {ga gb : Loc → Hp → Res PV} (ha : SoundE c f l ga) (hb : SoundE c f r gb) :
    SoundE c f (.BinOp l (opE op) r pos) fun ρ σ => (ga ρ σ).bind fun x σ => (gb ρ σ).bind fun y σ => binV op x y σ := fun {s m nw ad ρ σ Q E} I H => by
  refine wpAny_BinOp (ha I (Post.bind (R' := VR) H fun v σ₁ h₁ tk₁ nw₁ ad₁ u I₁ X₁ r₁ H₁ => ?_))
  refine hb (s := { s with heap := h₁, toks := tk₁ }) I₁ (Post.bind (R' := VR) H₁ fun v' σ₂ h₂ tk₂ nw₂ ad₂ u' I₂ X₂ r₂ H₂ => ?_)
  exact op_bin I₂ (r₁.ext X₂) r₂ H₂

theorem behind_noSet {op : CmpOp} {r : PySem.Expr} (h : noSet r = true) : behindInMarks op r = false := by
  cases r <;> first | rfl | exact nomatch h

theorem s_cmpG {l r : PySem.Expr} {pos} {op : CmpOp} {ga gb : Loc → Hp → Res PV} {k : PV → PV → Hp → Res PV} (ha : SoundE c f l ga) (hb : SoundE c f r gb) (hs : noSet r = true)
    (hop : ∀ {s : Shared} {m : Str → Option Value} {nw : Led} {ad : Ads} {ρ : Loc} {σ : Hp} {Q : Value → Shared → Prop} {E : Value → Shared → Prop} {a b : PV} {u v : Value},
      Inv c f m nw ad ρ σ s.heap → VR ad nw a u → VR ad nw b v → Post VR c f m ad nw ρ s Q E (k a b σ) → wpAny (model c.prog c.w) f.A (compareOp op u v) Q E s) :
    SoundE c f (.Compare l [op] [r] pos) (fun ρ σ => (ga ρ σ).bind fun x σ => (gb ρ σ).bind fun y σ => k x y σ) ∧
    SoundT c f (.Compare l [op] [r] pos) (fun ρ σ => testR ((ga ρ σ).bind fun x σ => (gb ρ σ).bind fun y σ => k x y σ)) := by
  refine ⟨fun {s m nw ad ρ σ Q E} I H => ?_, fun {s m nw ad ρ σ Q E} I H => ?_⟩
  · refine wpAny_Compare1 (ha I (Post.bind (R' := VR) H fun v σ₁ h₁ tk₁ nw₁ ad₁ u I₁ X₁ r₁ H₁ => ?_)) (behind_noSet hs)
    refine hb (s := { s with heap := h₁, toks := tk₁ }) I₁ (Post.bind (R' := VR) H₁ fun v' σ₂ h₂ tk₂ nw₂ ad₂ u' I₂ X₂ r₂ H₂ => ?_)
    exact hop I₂ (r₁.ext X₂) r₂ H₂
  · have as : ∀ {α β γ : Type} (r : Res α) (p : α → Hp → Res β) (q : β → Hp → Res γ), (r.bind p).bind q = r.bind fun x σ => (p x σ).bind q := fun r p q => by cases r <;> rfl
    unfold testR at H
    dsimp only at H
    rw [as] at H
    refine wpAny_isTrue_Compare1 (ha I (Post.bind (R' := VR) H fun v σ₁ h₁ tk₁ nw₁ ad₁ u I₁ X₁ r₁ H₁ => ?_)) (behind_noSet hs)
    rw [as] at H₁
    refine hb (s := { s with heap := h₁, toks := tk₁ }) I₁ (Post.bind (R' := VR) H₁ fun v' σ₂ h₂ tk₂ nw₂ ad₂ u' I₂ X₂ r₂ H₂ => ?_)
    refine hop I₂ (r₁.ext X₂) r₂ (Post.bind (R' := VR) H₂ fun v'' σ₃ h₃ tk₃ nw₃ ad₃ u'' I₃ X₃ r₃ H₃ => ?_)
    unfold truth at H₃
    split at H₃
    · rename_i b hb'
      split at hb'
      · cases hb'; cases r₃
        exact wpAny_truthy_bool (Post.here (tk := tk₃) H₃ I₃ rfl)
      · cases hb'
    · exact H₃.elim

theorem s_cmp {l r : PySem.Expr} {pos} {op : COp} {ga gb : Loc → Hp → Res PV} (ok : FmOk c n f) (ha : SoundE c f l ga) (hb : SoundE c f r gb) (hs : noSet r = true) :
    SoundE c f (.Compare l [copE op] [r] pos) (fun ρ σ => (ga ρ σ).bind fun x σ => (gb ρ σ).bind fun y σ => cmpV op x y σ) ∧
    SoundT c f (.Compare l [copE op] [r] pos) (fun ρ σ => testR ((ga ρ σ).bind fun x σ => (gb ρ σ).bind fun y σ => cmpV op x y σ)) :=
  s_cmpG ha hb hs fun I ra rb H => op_cmp I ra rb (by have := ok.units; show f.A₀.units + 3 + 64 < cLine; omega) H

theorem s_isin {l r : PySem.Expr} {pos} {neg : Bool} {ga gb : Loc → Hp → Res PV} (ok : FmOk c n f) (ha : SoundE c f l ga) (hb : SoundE c f r gb) (hs : noSet r = true) :
    SoundE c f (.Compare l [if neg then .NotIn else .In] [r] pos) (fun ρ σ => (ga ρ σ).bind fun x σ => (gb ρ σ).bind fun y σ => match y with | .tup l => (match inL x l with | some r => .ok (.bool (r != neg)) σ | Option.none => .stuck) | _ => .stuck) ∧
    SoundT c f (.Compare l [if neg then .NotIn else .In] [r] pos) (fun ρ σ => testR ((ga ρ σ).bind fun x σ => (gb ρ σ).bind fun y σ => match y with | .tup l => (match inL x l with | some r => .ok (.bool (r != neg)) σ | Option.none => .stuck) | _ => .stuck)) := by
  refine s_cmpG (k := fun x y σ => match y with | .tup l => (match inL x l with | some r => .ok (.bool (r != neg)) σ | Option.none => .stuck) | _ => .stuck) ha hb hs fun {s m nw ad ρ σ Q E a b u v} I ra rb H => ?_
  have hu : f.A.units + 64 < cLine := by have := ok.units; show f.A₀.units + 3 + 64 < cLine; omega
  split at H
  · split at H
    · rename_i e
      cases neg with
      | false => exact (op_in I ra rb e hu).1 (H.here (tk := s.toks) I (by rw [Bool.bne_false]; exact .bool _))
      | true => exact (op_in I ra rb e hu).2 (H.here (tk := s.toks) I (by rw [Bool.bne_true]; exact .bool _))
    · exact H.elim
  · exact H.elim

theorem VR.isNone {ad : Ads} {nw : Led} {v : PV} {u : Value} (r : VR ad nw v u) : (!(u == .none)) = notNoneV v := by
  cases r <;> first | rfl | simp [notNoneV]

theorem s_notNone {l : PySem.Expr} {pos k p} {ga : Loc → Hp → Res PV} (ha : SoundE c f l ga) :
    SoundE c f (.Compare l [.IsNot] [.Constant .none k p] pos) (fun ρ σ => (ga ρ σ).bind fun v σ => .ok (.bool (notNoneV v)) σ) ∧
    SoundT c f (.Compare l [.IsNot] [.Constant .none k p] pos) (fun ρ σ => testR ((ga ρ σ).bind fun v σ => .ok (.bool (notNoneV v)) σ)) :=
  s_cmpG (c := c) (f := f) (pos := pos) (op := .IsNot) (ga := ga) (gb := fun _ σ => .ok .none σ) (k := fun x y σ => match y with | .none => .ok (.bool (notNoneV x)) σ | _ => .stuck) ha (s_none (k := k) (pos := p)) rfl
    fun {s m nw ad ρ σ Q E a b u v} I ra rb H => by
      split at H
      · cases rb
        exact isNot_none (by rw [ra.isNone]; exact H.here (tk := s.toks) I (.bool _))
      · exact H.elim

theorem s_ite {t x y : PySem.Expr} {pos} {gt : Loc → Hp → Res Bool} {ga gb : Loc → Hp → Res PV} (ht : SoundT c f t gt) (ha : SoundE c f x ga) (hb : SoundE c f y gb) :
    SoundE c f (.IfExp t x y pos) fun ρ σ => (gt ρ σ).bind fun b σ => if b then ga ρ σ else gb ρ σ := fun {s m nw ad ρ σ Q E} I H => by
  refine wpAny_IfExp (ht I (Post.bind (R' := BR) H fun v σ₁ h₁ tk₁ nw₁ ad₁ u I₁ X₁ r₁ H₁ => ?_))
  cases r₁
  cases v with
  | true => exact ha (s := { s with heap := h₁, toks := tk₁ }) I₁ H₁
  | false => exact hb (s := { s with heap := h₁, toks := tk₁ }) I₁ H₁
theorem Res.bind_assoc {α β γ : Type} (r : Res α) (p : α → Hp → Res β) (q : β → Hp → Res γ) : (r.bind p).bind q = r.bind fun x σ => (p x σ).bind q := by cases r <;> rfl
theorem s_iteT {t x y : PySem.Expr} {pos} {gt : Loc → Hp → Res Bool} {ga gb : Loc → Hp → Res PV} (ht : SoundT c f t gt) (ha : SoundT c f x fun ρ σ => testR (ga ρ σ)) (hb : SoundT c f y fun ρ σ => testR (gb ρ σ)) :
    SoundT c f (.IfExp t x y pos) fun ρ σ => testR ((gt ρ σ).bind fun b σ => if b then ga ρ σ else gb ρ σ) := fun {s m nw ad ρ σ Q E} I H => by
  have e : isTrue (.IfExp t x y pos) f.env (eval (.IfExp t x y pos) f.env) = (do if ← isTrue t f.env (eval t f.env) then isTrue x f.env (eval x f.env) else isTrue y f.env (eval y f.env)) := rfl
  rw [e]
  unfold testR at H
  dsimp only at H
  rw [Res.bind_assoc] at H
  refine wpAny_bind (ht I (Post.bind (R' := BR) H fun v σ₁ h₁ tk₁ nw₁ ad₁ u I₁ X₁ r₁ H₁ => ?_))
  cases r₁
  cases v with
  | true => exact ha (s := { s with heap := h₁, toks := tk₁ }) I₁ H₁
  | false => exact hb (s := { s with heap := h₁, toks := tk₁ }) I₁ H₁

/-- the values of and | or, from some place on -/
noncomputable def SoundB (c : FC) (f : Fm) (op : BoolOp) (es : List PySem.Expr) (g : Loc → Hp → Res PV) : Prop :=
  (∀ {pos : Pos} {s : Shared} {m : Str → Option Value} {nw : Led} {ad : Ads} {ρ : Loc} {σ : Hp} {Q : Value → Shared → Prop} {E : Value → Shared → Prop},
    Inv c f m nw ad ρ σ s.heap → Post VR c f m ad nw ρ s Q E (g ρ σ) → wpAny (model c.prog c.w) f.A (boolOp pos op (evalEach es f.env)) Q E s) ∧
  (∀ {s : Shared} {m : Str → Option Value} {nw : Led} {ad : Ads} {ρ : Loc} {σ : Hp} {Q : Bool → Shared → Prop} {E : Value → Shared → Prop},
    Inv c f m nw ad ρ σ s.heap → Post BR c f m ad nw ρ s Q E (testR (g ρ σ)) → wpAny (model c.prog c.w) f.A (allTrue op es f.env) Q E s)

theorem sB_one {op : BoolOp} {e : PySem.Expr} {g : Loc → Hp → Res PV} (h : SoundE c f e g) (ht : SoundT c f e fun ρ σ => testR (g ρ σ)) : SoundB c f op [e] g := by
  refine ⟨fun I H => h I H, fun {s m nw ad ρ σ Q E} I H => ?_⟩
  cases op with
  | And =>
    refine wpAny_allTrue_And_cons (ht I (H.mono fun b s' hb => ?_))
    cases b with
    | false => exact hb
    | true => exact wpAny_allTrue_And_nil hb
  | Or =>
    refine wpAny_allTrue_Or_cons (ht I (H.mono fun b s' hb => ?_))
    cases b with
    | true => exact hb
    | false => exact wpAny_allTrue_Or_nil hb


theorem sB_and {v w : PySem.Expr} {vs : List PySem.Expr} {ga gb : Loc → Hp → Res PV} (ha : SoundE c f v ga) (hat : SoundT c f v fun ρ σ => testR (ga ρ σ)) (hb : SoundB c f .And (w :: vs) gb) :
    SoundB c f .And (v :: w :: vs) fun ρ σ => (testR (ga ρ σ)).bind fun t σ => if t then gb ρ σ else .ok (.bool false) σ := by
  refine ⟨fun {pos s m nw ad ρ σ Q E} I H => ?_, fun {s m nw ad ρ σ Q E} I H => ?_⟩
  · have e : boolOp pos .And (evalEach (v :: w :: vs) f.env) = (do
        let x ← eval v f.env
        standAt pos
        let t ← holding [x] (truthy x)
        match BoolOp.And, t with
        | .And, false | .Or, true => pure x
        | _, _ => boolOp pos .And (evalEach (w :: vs) f.env)) := rfl
    rw [e]
    unfold testR at H
    dsimp only at H
    rw [Res.bind_assoc] at H
    refine wpAny_bind (ha I (Post.bind (R' := VR) H fun v' σ₁ h₁ tk₁ nw₁ ad₁ u I₁ X₁ r₁ H₁ => wpAny_bind (wpAny_standAt (wpAny_bind (wpAny_holding ?_)))))
    cases v' with
    | bool b =>
      cases r₁
      refine wpAny_truthy_bool ?_
      cases b with
      | false => exact wpAny_pure (Post.here (tk := tk₁) H₁ I₁ (.bool _))
      | true => exact hb.1 (s := { s with heap := h₁, toks := tk₁ }) I₁ H₁
    | _ => exact H₁.elim
  · unfold testR at H
    dsimp only at H
    rw [Res.bind_assoc] at H
    refine wpAny_allTrue_And_cons (hat I (Post.bind (R' := BR) H fun v' σ₁ h₁ tk₁ nw₁ ad₁ u I₁ X₁ r₁ H₁ => ?_))
    cases r₁
    cases v' with
    | false => exact Post.here (tk := tk₁) H₁ I₁ rfl
    | true => exact hb.2 (s := { s with heap := h₁, toks := tk₁ }) I₁ H₁

theorem sB_or {v w : PySem.Expr} {vs : List PySem.Expr} {ga gb : Loc → Hp → Res PV} (ha : SoundE c f v ga) (hat : SoundT c f v fun ρ σ => testR (ga ρ σ)) (hb : SoundB c f .Or (w :: vs) gb) :
    SoundB c f .Or (v :: w :: vs) fun ρ σ => (testR (ga ρ σ)).bind fun t σ => if t then .ok (.bool true) σ else gb ρ σ := by
  refine ⟨fun {pos s m nw ad ρ σ Q E} I H => ?_, fun {s m nw ad ρ σ Q E} I H => ?_⟩
  · have e : boolOp pos .Or (evalEach (v :: w :: vs) f.env) = (do
        let x ← eval v f.env
        standAt pos
        let t ← holding [x] (truthy x)
        match BoolOp.Or, t with
        | .And, false | .Or, true => pure x
        | _, _ => boolOp pos .Or (evalEach (w :: vs) f.env)) := rfl
    rw [e]
    unfold testR at H
    dsimp only at H
    rw [Res.bind_assoc] at H
    refine wpAny_bind (ha I (Post.bind (R' := VR) H fun v' σ₁ h₁ tk₁ nw₁ ad₁ u I₁ X₁ r₁ H₁ => wpAny_bind (wpAny_standAt (wpAny_bind (wpAny_holding ?_)))))
    cases v' with
    | bool b =>
      cases r₁
      refine wpAny_truthy_bool ?_
      cases b with
      | true => exact wpAny_pure (Post.here (tk := tk₁) H₁ I₁ (.bool _))
      | false => exact hb.1 (s := { s with heap := h₁, toks := tk₁ }) I₁ H₁
    | _ => exact H₁.elim
  · unfold testR at H
    dsimp only at H
    rw [Res.bind_assoc] at H
    refine wpAny_allTrue_Or_cons (hat I (Post.bind (R' := BR) H fun v' σ₁ h₁ tk₁ nw₁ ad₁ u I₁ X₁ r₁ H₁ => ?_))
    cases r₁
    cases v' with
    | true => exact Post.here (tk := tk₁) H₁ I₁ rfl
    | false => exact hb.2 (s := { s with heap := h₁, toks := tk₁ }) I₁ H₁

theorem sE_ofB {op : BoolOp} {vs : List PySem.Expr} {pos} {g : Loc → Hp → Res PV} (h : SoundB c f op vs g) : SoundE c f (.BoolOp op vs pos) g ∧ SoundT c f (.BoolOp op vs pos) fun ρ σ => testR (g ρ σ) :=
  ⟨fun I H => h.1 (pos := pos) I H, fun I H => wpAny_isTrue_BoolOp (h.2 I H)⟩

theorem s_notE {x : PySem.Expr} {pos} {g : Loc → Hp → Res PV} (hx : SoundE c f x g) (hxt : SoundT c f x fun ρ σ => testR (g ρ σ)) :
    SoundE c f (.UnaryOp .Not x pos) (fun ρ σ => (testR (g ρ σ)).bind fun t σ => .ok (.bool (!t)) σ) ∧ SoundT c f (.UnaryOp .Not x pos) (fun ρ σ => testR ((testR (g ρ σ)).bind fun t σ => .ok (.bool (!t)) σ)) := by
  refine ⟨fun {s m nw ad ρ σ Q E} I H => ?_, fun {s m nw ad ρ σ Q E} I H => ?_⟩
  · unfold testR at H
    dsimp only at H
    rw [Res.bind_assoc] at H
    refine wpAny_UnaryOp (hx I (Post.bind (R' := VR) H fun v' σ₁ h₁ tk₁ nw₁ ad₁ u I₁ X₁ r₁ H₁ => ?_))
    cases v' with
    | bool b =>
      cases r₁
      exact not_value (wpAny_truthy_bool (Post.here (tk := tk₁) H₁ I₁ (.bool _)))
    | _ => exact H₁.elim
  · have e : testR ((testR (g ρ σ)).bind fun t σ => .ok (.bool (!t)) σ) = (testR (g ρ σ)).bind fun t σ => .ok (!t) σ := by
      cases testR (g ρ σ) <;> rfl
    dsimp only at H
    rw [e] at H
    exact s_not hxt I H

/-- argument lists -/
theorem sA_nil : SoundA c f [] fun _ σ => .ok (.tup []) σ := by
  refine ⟨fun _ h => (nomatch h), fun {pos s m nw ad ρ σ Q E} I H => wpAny_items_nil (Post.here (tk := s.toks) H I .nil), fun {ks keys} hk hl pos s m nw ad ρ σ Q E I H => ?_⟩
  cases ks with
  | nil =>
    cases keys with
    | nil => exact pairTrees_nil_walk (Post.here (tk := s.toks) H I .nil)
    | cons _ _ => exact nomatch chkKeys_nil hk
  | cons _ _ => simp at hl
theorem sA_cons {e : PySem.Expr} {r : List PySem.Expr} {ga gb : Loc → Hp → Res PV} (ha : SoundE c f e ga) (hp : plainE e = true) (hb : SoundA c f r gb) :
    SoundA c f (e :: r) fun ρ σ => (ga ρ σ).bind fun v σ => (gb ρ σ).bind fun vs σ => .ok (.tup (v :: argsOf vs)) σ := by
  refine ⟨fun x hx => ?_, fun {pos s m nw ad ρ σ Q E} I H => ?_, fun {ks keys} hk hl pos s m nw ad ρ σ Q E I H => ?_⟩
  · rcases List.mem_cons.mp hx with rfl | hx
    · exact hp
    · exact hb.plain x hx
  · have he : starEach (e :: r) f.env = (false, eval e f.env) :: starEach r f.env := by
      cases e <;> first | rfl | exact nomatch hp
    refine wpAny_items_cons (ha I (Post.bind (R' := VR) H fun v σ₁ h₁ tk₁ nw₁ ad₁ u I₁ X₁ r₁ H₁ => ?_)) he
    refine hb.args (s := { s with heap := h₁, toks := tk₁ }) I₁ (Post.bind (R' := ArgR) H₁ fun v' σ₂ h₂ tk₂ nw₂ ad₂ us I₂ X₂ r₂ H₂ => ?_)
    exact Post.here (tk := tk₂) H₂ I₂ (.cons (r₁.ext X₂) r₂)
  · cases ks with
    | nil => exact nomatch hl
    | cons k ks =>
      · obtain ⟨kk, p, keys, rfl, hk1⟩ := chkKeys_cons hk
        refine pairTrees_cons_walk (wpAny_Constant_str ?_)
        refine ha (s := { s with toks := s.toks + 1 }) I (Post.bind (R' := VR) (Post.shift (h := s.heap) (tk := s.toks + 1) (Ext.refl _ _) H) fun v σ₁ h₁ tk₁ nw₁ ad₁ u I₁ X₁ r₁ H₁ => ?_)
        refine hb.pairs hk1 (by simpa using hl) (s := { s with heap := h₁, toks := tk₁ }) I₁ (Post.bind (R' := PairR ks) H₁ fun v' σ₂ h₂ tk₂ nw₂ ad₂ us I₂ X₂ r₂ H₂ => ?_)
        exact Post.here (tk := tk₂) H₂ I₂ (.cons (r₁.ext X₂) r₂)

theorem s_tup {es : List PySem.Expr} {k pos} {g : Loc → Hp → Res PV} (ha : SoundA c f es g) :
    SoundE c f (.Tuple es k pos) fun ρ σ => (g ρ σ).bind fun vs σ => if (argsOf vs).length ≤ 100000 then .ok (.tup (argsOf vs)) σ else .stuck := fun {s m nw ad ρ σ Q E} I H => by
  refine Tuple_ (ha.args I (Post.bind (R' := ArgR) H fun v σ₁ h₁ tk₁ nw₁ ad₁ us I₁ X₁ r₁ H₁ => ?_))
  split at H₁
  · rename_i hl
    obtain ⟨news, N, sub, close⟩ := I₁.grow1
    have e := VRs.length r₁
    exact newTuple_N I₁.F N (fun h' F' N' => Post.newTup (tk := tk₁) H₁ r₁ (by omega) (close h' _ _ F' N' (led_lt N))) (by rw [e, sizeLine_eq]; omega)
  · exact H₁.elim
theorem s_list {es : List PySem.Expr} {pos} {g : Loc → Hp → Res PV} (ha : SoundA c f es g) :
    SoundE c f (.List es pos) fun ρ σ => (g ρ σ).bind fun vs σ => if (argsOf vs).length ≤ 100000 then newObj (.list (argsOf vs)) σ else .stuck := fun {s m nw ad ρ σ Q E} I H => by
  refine List_ (ha.args I (Post.bind (R' := ArgR) H fun v σ₁ h₁ tk₁ nw₁ ad₁ us I₁ X₁ r₁ H₁ => ?_))
  split at H₁
  · rename_i hl
    obtain ⟨news, N, sub, close⟩ := I₁.grow1
    have e := VRs.length r₁
    exact newList_N I₁.F N (fun h' F' N' => Post.newList (tk := tk₁) H₁ I₁ r₁ (by omega) (fun p hp => led_lt N p (sub p hp)) (close h' _ _ F' N' (led_lt N))) (by rw [e, sizeLine_eq]; omega)
  · exact H₁.elim
end
end Mine
end
section
/-! Soundness, part 7: calls, methods, attributes, subscripts, the built-ins. -/
open PySem PySem.W PySem.Calls PyProof.Rows
set_option maxRecDepth 100000
set_option linter.unusedVariables false
namespace Mine

theorem star_plain {env : Env} {e : PySem.Expr} {r : List PySem.Expr} (h : plainE e = true) : starEach (e :: r) env = (false, eval e env) :: starEach r env := by
  cases e <;> first | rfl | exact nomatch h
theorem star_none {env : Env} : ∀ {es : List PySem.Expr}, (∀ x ∈ es, plainE x = true) → ∀ p ∈ starEach es env, p.1 = false
  | [], _ => fun _ h => (nomatch h)
  | e :: r, h => by
    rw [star_plain (h e (.head _))]
    intro p hp
    rcases List.mem_cons.mp hp with rfl | hp
    · rfl
    · exact star_none (fun x hx => h x (.tail _ hx)) p hp
theorem star_any {env : Env} {pos : Pos} {es : List PySem.Expr} (h : ∀ x ∈ es, plainE x = true) : (backTo pos (starEach es env)).any (·.1) = false := by
  rw [List.any_eq_false]
  intro p hp
  unfold backTo at hp
  obtain ⟨q, hq, rfl⟩ := List.mem_map.mp hp
  have := star_none h q hq
  obtain ⟨a, b⟩ := q
  simp at this
  simp [this]
theorem star_all {env : Env} {pos : Pos} {es : List PySem.Expr} (h : ∀ x ∈ es, plainE x = true) : (backTo pos (starEach es env)).all (!·.1) = true := by
  have := star_any (env := env) (pos := pos) h
  rw [List.any_eq_false] at this
  rw [List.all_eq_true]
  intro p hp
  simpa using this p hp

theorem attributeBase_plain {o : PySem.Expr} {attr : Str} {env : Env} {whole : Sem Value} (h : baseOk o = true) : attributeBase o attr env whole = whole := by
  cases o <;> first | rfl | exact nomatch h

theorem methodCall_plain {o : PySem.Expr} {name : Str} {apos pos : Pos} {args : List PySem.Expr} {env : Env} (hb : baseOk o = true) (hp : ∀ x ∈ args, plainE x = true) (hn : args.length ≤ 20) (hpos : (apos.endLine == pos.line) = true) :
    eval (.Call (.Attribute o name apos) args [] pos) env = (do
      let ov ← eval o env
      standAt apos.atName
      let (f, first) ← holding [ov] (getMethod ov name (do return (← importBound o env).getD true))
      callWith pos f first (backTo pos (starEach args env)) []) := by
  show (do
    let ov ← attributeBase o name env (eval o env)
    standAt apos.atName
    methodCall o name apos pos env ov (args.length + 0) (backTo pos (starEach args env)) []) = _
  rw [attributeBase_plain hb]
  have hf : methodCallForm (args.length + 0) (backTo pos (starEach args env)) [] = true := by
    unfold methodCallForm
    rw [star_all hp]
    simp
    omega
  unfold methodCall
  simp only [hf, calleeOf, methodCallPos, hpos, Bool.not_true, Bool.false_or, if_true]
  rfl

/-- what a call of a def of the text does, by the pure one -/
noncomputable def CallAt (c : FC) (f : Fm) (a : Addr) (g : List PV → Hp → Res PV) : Prop :=
  ∀ {args : List PV} {us : List Value} {s : Shared} {m : Str → Option Value} {nw : Led} {ad : Ads} {ρ : Loc} {σ : Hp} {Q : Value → Shared → Prop} {E : Value → Shared → Prop},
    Inv c f m nw ad ρ σ s.heap → VRs ad nw args us → Post VR c f m ad nw ρ s Q E (g args σ) → wpAny (model c.prog c.w) f.A (call (.ref a) us) Q E s
/-- .. and of the parser's class -/
noncomputable def NewAt (c : FC) (f : Fm) (cf : CF) : Prop :=
  ∀ {v : PV} {u : Value} {s : Shared} {m : Str → Option Value} {nw : Led} {ad : Ads} {ρ : Loc} {σ : Hp} {Q : Value → Shared → Prop} {E : Value → Shared → Prop},
    Inv c f m nw ad ρ σ s.heap → VR ad nw v u → Post VR c f m ad nw ρ s Q E (newV cf v σ) → wpAny (model c.prog c.w) f.A (call (.ref c.C) [u]) Q E s
structure CallOk (c : FC) (f : Fm) (cf : CF) : Prop where
  fn : ∀ x a, FnAt c x a → CallAt c f a (cf x)
  meth : ∀ x a, MethAt c x a → CallAt c f a (cf ("." ++ x))
  new : NewAt c f cf

section
variable {c : FC} {n : Nat} {f : Fm} {k : Ck} {cf : CF}

theorem fn_name {x : String} {v : Value} {pos} {s : Shared} {m : Str → Option Value} {nw : Led} {ad : Ads} {ρ : Loc} {σ : Hp} {Q : Value → Shared → Prop} {E : Value → Shared → Prop} (ok : FmOk c n f) (I : Inv c f m nw ad ρ σ s.heap)
    (hk : f.scope.names.lookup (S x) = some .globalImplicit) (hd : (S x == ("__debug__" : Str)) = false) (hv : nsIn c.K mainGlobals (S x) = some (some v)) (h : Q v s) : wpAny (model c.prog c.w) f.A (eval (.Name (S x) pos) f.env) Q E s :=
  name_K I.F ok.X ok.T hv h ok.kind hk hd
theorem bi_name {x : String} {v : Value} {pos} {s : Shared} {m : Str → Option Value} {nw : Led} {ad : Ads} {ρ : Loc} {σ : Hp} {Q : Value → Shared → Prop} {E : Value → Shared → Prop} (ok : FmOk c n f) (I : Inv c f m nw ad ρ σ s.heap)
    (hk : f.scope.names.lookup (S x) = some .globalImplicit) (hd : (S x == ("__debug__" : Str)) = false) (hv : nsIn c.K mainGlobals (S x) = some none) (hb : bootBuiltins (S x) = some v) (hn : S x ≠ "__name__") (h : Q v s) : wpAny (model c.prog c.w) f.A (eval (.Name (S x) pos) f.env) Q E s :=
  name_B I.F ok.X ok.T hv hb hn h ok.kind hk hd

/-- a callee that is known, its arguments, then the call -/
theorem callWith_args {pos} {a : Value} {first : List Value} {es : List PySem.Expr} {ga : Loc → Hp → Res PV} {g : PV → Hp → Res PV} {s : Shared} {m : Str → Option Value} {nw : Led} {ad : Ads} {ρ : Loc} {σ : Hp} {Q : Value → Shared → Prop} {E : Value → Shared → Prop}
    (ok : FmOk c n f) (hk : keepIn c.K a = true) (ha : SoundA c f es ga) (I : Inv c f m nw ad ρ σ s.heap) (H : Post VR c f m ad nw ρ s Q E ((ga ρ σ).bind g))
    (next : ∀ v σ₁ h₁ tk₁ nw₁ ad₁ us, Inv c f m nw₁ ad₁ ρ σ₁ h₁ → Ext ad nw ad₁ nw₁ → VRs ad₁ nw₁ (argsOf v) us → Post VR c f m ad₁ nw₁ ρ { s with heap := h₁, toks := tk₁ } Q E (g v σ₁) →
      wpAny (model c.prog c.w) f.A (call a (first ++ us)) Q E { s with heap := h₁, toks := tk₁ }) :
    wpAny (model c.prog c.w) f.A (callWith pos a first (backTo pos (starEach es f.env)) []) Q E s := by
  cases es with
  | nil =>
    have h0 := ha.args (pos := pos) (Q := fun vs s₁ => wpAny (model c.prog c.w) f.A (call a (first ++ vs)) Q E s₁) I (Post.bind (R' := ArgR) H fun v σ₁ h₁ tk₁ nw₁ ad₁ us I₁ X₁ r₁ H₁ => next v σ₁ h₁ tk₁ nw₁ ad₁ us I₁ X₁ r₁ H₁)
    exact fun Γ p hΓ => callWith_K0 (ok.X.keeps I.F.keep) hk (h0 Γ p hΓ) Γ p hΓ
  | cons e r =>
    refine callWith_K ok.X hk (ha.args I (Post.bind (R' := ArgR) H fun v σ₁ h₁ tk₁ nw₁ ad₁ us I₁ X₁ r₁ H₁ => ⟨ok.X.keeps I₁.F.keep, next v σ₁ h₁ tk₁ nw₁ ad₁ us I₁ X₁ r₁ H₁⟩)) (star_plain (ha.plain e (.head _))) (star_any fun x hx => ha.plain x (.tail _ hx))

theorem s_call {x : String} {pos np} {es : List PySem.Expr} {ga : Loc → Hp → Res PV} {a : Addr} (ok : FmOk c n f) (hk : f.scope.names.lookup (S x) = some .globalImplicit) (hd : (S x == ("__debug__" : Str)) = false) (hf : FnAt c x a)
    (ha : SoundA c f es ga) (co : CallOk c f cf) : SoundE c f (.Call (.Name (S x) np) es [] pos) fun ρ σ => (ga ρ σ).bind fun vs σ => cf x (argsOf vs) σ := fun {s m nw ad ρ σ Q E} I H =>
  Call_ (fn_name ok I hk hd hf.1 (callWith_args (g := fun vs σ => cf x (argsOf vs) σ) ok hf.2 ha I H fun v σ₁ h₁ tk₁ nw₁ ad₁ us I₁ X₁ r₁ H₁ => co.fn x a hf (s := { s with heap := h₁, toks := tk₁ }) I₁ r₁ H₁)) rfl

theorem s_meth {o : PySem.Expr} {x : String} {pos apos} {es : List PySem.Expr} {go ga : Loc → Hp → Res PV} {a : Addr} (ok : FmOk c n f) (cs : CsOk c) (hm : MethAt c x a) (hb : baseOk o = true) (hn : es.length ≤ 20) (hpos : (apos.endLine == pos.line) = true)
    (ho : SoundE c f o go) (ha : SoundA c f es ga) (co : CallOk c f cf) : SoundE c f (.Call (.Attribute o (S x) apos) es [] pos) fun ρ σ => (go ρ σ).bind fun ov σ => match ov with
    | .obj n => (match instAt σ n with
      | some l => if (getKey x l).isNone then (ga ρ σ).bind fun vs σ => cf ("." ++ x) (ov :: argsOf vs) σ else .stuck
      | Option.none => .stuck)
    | _ => .stuck := fun {s m nw ad ρ σ Q E} I H => by
  refine MethodCall_ (ho I (Post.bind (R' := VR) H fun v σ₁ h₁ tk₁ nw₁ ad₁ u I₁ X₁ r₁ H₁ => ?_)) (methodCall_plain hb ha.plain hn hpos)
  cases v with
  | obj i =>
    dsimp only at H₁
    have r₁' := r₁
    cases r₁ with
    | obj hx =>
      split at H₁
      · rename_i l el
        split at H₁
        · rename_i hk
          obtain ⟨es', k', h1, h2, dr, _⟩ := I₁.instAt el hx
          refine method_inst I₁.F ok.X (InstAt.of_news I₁.N h1 h2) (cs.get _) hm.1 hm.2.1 (dr.find.2 (Option.isNone_iff_eq_none.mp hk)) ?_
          refine callWith_args (s := { s with heap := h₁, toks := tk₁ }) ok hm.2.2 ha I₁ H₁ fun v' σ₂ h₂ tk₂ nw₂ ad₂ us I₂ X₂ r₂ H₂ => ?_
          exact co.meth x a hm (s := { s with heap := h₂, toks := tk₂ }) I₂ (.cons (r₁'.ext X₂) r₂) H₂
        · exact H₁.elim
      · exact H₁.elim
  | _ => exact H₁.elim

theorem sA_one {e : PySem.Expr} {g : Loc → Hp → Res PV} (h : SoundE c f e g) (hp : plainE e = true) : SoundA c f [e] fun ρ σ => (g ρ σ).bind fun v σ => .ok (.tup [v]) σ := sA_cons h hp sA_nil

theorem s_new {e : PySem.Expr} {pos np} {g : Loc → Hp → Res PV} (ok : FmOk c n f) (hk : f.scope.names.lookup (S "ExprParser") = some .globalImplicit) (sy : nsIn c.K mainGlobals (S "ExprParser") = some (some (.ref c.C)) ∧ keepIn c.K (.ref c.C) = true)
    (h : SoundE c f e g) (hp : plainE e = true) (co : CallOk c f cf) : SoundE c f (.Call (.Name (S "ExprParser") np) [e] [] pos) fun ρ σ =>
      (g ρ σ).bind fun v σ => newV cf v σ := fun {s m nw ad ρ σ Q E} I H => by
  refine Call_ (fn_name ok I hk (by decide +kernel) sy.1 ?_) rfl
  have H' : Post VR c f m ad nw ρ s Q E (((g ρ σ).bind fun v σ => .ok (PV.tup [v]) σ).bind fun vs σ => match argsOf vs with
    | [v] => newV cf v σ
    | _ => .stuck) := by rw [Res.bind_assoc]; exact H
  refine callWith_args ok sy.2 (sA_one h hp) I H' fun v σ₁ h₁ tk₁ nw₁ ad₁ us I₁ X₁ r₁ H₁ => ?_
  generalize argsOf v = l at r₁ H₁
  cases r₁ with
  | nil => exact H₁.elim
  | cons a b =>
    cases b with
    | nil => exact co.new (s := { s with heap := h₁, toks := tk₁ }) I₁ a H₁
    | cons _ _ => exact H₁.elim

theorem s_attr {o : PySem.Expr} {x : String} {pos} {g : Loc → Hp → Res PV} (ok : FmOk c n f) (cs : CsOk c) (hx : x ∈ attrNames) (hb : baseOk o = true) (ho : SoundE c f o g) :
    SoundE c f (.Attribute o (S x) pos) fun ρ σ => (g ρ σ).bind fun v σ => attrV v x σ := fun {s m nw ad ρ σ Q E} I H => by
  refine Attribute_any_ (ho I (Post.bind (R' := VR) H fun v σ₁ h₁ tk₁ nw₁ ad₁ u I₁ X₁ r₁ H₁ => op_attr (s := { s with heap := h₁, toks := tk₁ }) ok cs hx I₁ r₁ H₁)) ?_
  show (do
    let o' ← attributeBase o (S x) f.env (eval o f.env)
    standAt pos.atName
    let r ← holding [o'] (getAttr o' (S x) true)
    letTemporaryGo o o' r
    pure r) = _
  rw [attributeBase_plain hb]

theorem s_sub {v i : PySem.Expr} {pos} {ga gb : Loc → Hp → Res PV} (ha : SoundE c f v ga) (hb : SoundE c f i gb) (hs : notSlice i = true) :
    SoundE c f (.Subscript v i pos) fun ρ σ => (ga ρ σ).bind fun x σ => (gb ρ σ).bind fun y σ => subV x y σ := fun {s m nw ad ρ σ Q E} I H => by
  refine Subscript_ (ha I (Post.bind (R' := VR) H fun v₁ σ₁ h₁ tk₁ nw₁ ad₁ u I₁ X₁ r₁ H₁ => ?_))
  refine hb (s := { s with heap := h₁, toks := tk₁ }) I₁ (Post.bind (R' := VR) H₁ fun v' σ₂ h₂ tk₂ nw₂ ad₂ u' I₂ X₂ r₂ H₂ => ?_)
  exact op_sub (s := { s with heap := h₂, toks := tk₂ }) hs I₂ (r₁.ext X₂) r₂ H₂

/-- a method of a built-in type upon an object of the call's, one argument -/
theorem s_append {o e : PySem.Expr} {pos apos} {go ge : Loc → Hp → Res PV} (hb : baseOk o = true) (hp : plainE e = true) (hpos : (apos.endLine == pos.line) = true) (ho : SoundE c f o go) (he : SoundE c f e ge) :
    SoundE c f (.Call (.Attribute o (S "append") apos) [e] [] pos) fun ρ σ => (go ρ σ).bind fun ov σ => if isListV ov σ then (ge ρ σ).bind fun x σ => appendV ov x σ else .stuck := fun {s m nw ad ρ σ Q E} I H => by
  refine MethodCall_ (ho I (Post.bind (R' := VR) H fun v σ₁ h₁ tk₁ nw₁ ad₁ u I₁ X₁ r₁ H₁ => ?_)) (methodCall_plain hb (fun x hx => by rw [List.mem_singleton] at hx; subst hx; exact hp) (by simp) hpos)
  split at H₁
  · rename_i hil
    unfold isListV at hil
    split at hil
    · rename_i i
      obtain ⟨l, hl⟩ := Option.isSome_iff_exists.mp hil
      have r₁' := r₁
      cases r₁ with
      | @obj _ xa dx hx =>
        obtain ⟨vs, k', h1, r, h3, hd⟩ := I₁.listAt hl hx
        refine getMethod_append_N I₁.N h1 ?_
        refine callWith_method1 (wpAny_items_cons (he (s := { s with heap := h₁, toks := tk₁ }) I₁ (Post.bind (R' := VR) H₁ fun v' σ₂ h₂ tk₂ nw₂ ad₂ u' I₂ X₂ r₂ H₂ => wpAny_items_nil ?_)) (star_plain hp)) (star_plain hp) rfl
        exact op_append (s := { s with heap := h₂, toks := tk₂ }) I₂ (r₁'.ext X₂) r₂ H₂
    · cases hil
  · exact H₁.elim

theorem s_pop {o : PySem.Expr} {pos apos} {go : Loc → Hp → Res PV} (hb : baseOk o = true) (hpos : (apos.endLine == pos.line) = true) (ho : SoundE c f o go) :
    SoundE c f (.Call (.Attribute o (S "pop") apos) [] [] pos) fun ρ σ => (go ρ σ).bind fun ov σ => popV ov σ := fun {s m nw ad ρ σ Q E} I H => by
  refine MethodCall_ (ho I (Post.bind (R' := VR) H fun v σ₁ h₁ tk₁ nw₁ ad₁ u I₁ X₁ r₁ H₁ => ?_)) (methodCall_plain hb (fun x hx => (nomatch hx)) (by simp) hpos)
  have hil : ∃ i l, v = .obj i ∧ listAt σ₁ i = some l := by
    unfold popV at H₁
    split at H₁
    · split at H₁
      · rename_i hl; exact ⟨_, _, rfl, hl⟩
      · exact H₁.elim
    · exact H₁.elim
  obtain ⟨i, l, rfl, hl⟩ := hil
  have r₁' := r₁
  cases r₁ with
  | @obj _ xa dx hx =>
    obtain ⟨vs, k', h1, r, h3, hd⟩ := I₁.listAt hl hx
    refine getMethod_pop_N I₁.N h1 (callWith_method0 ?_)
    exact op_pop (s := { s with heap := h₁, toks := tk₁ }) I₁ r₁' H₁

theorem s_len {e : PySem.Expr} {pos np} {g : Loc → Hp → Res PV} (ok : FmOk c n f) (hk : f.scope.names.lookup (S "len") = some .globalImplicit) (hv : nsIn c.K mainGlobals (S "len") = some none) (h : SoundE c f e g) (hp : plainE e = true) :
    SoundE c f (.Call (.Name (S "len") np) [e] [] pos) fun ρ σ => (g ρ σ).bind fun v σ => lenV v σ := fun {s m nw ad ρ σ Q E} I H => by
  refine Call_ (bi_name ok I hk (by decide +kernel) hv PyProof.Rows.Boot.len (by decide +kernel) ?_) rfl
  refine PyProof.Rows.callWith_builtin1 (wpAny_items_cons (h I (Post.bind (R' := VR) H fun v' σ₂ h₂ tk₂ nw₂ ad₂ u' I₂ X₂ r₂ H₂ => wpAny_items_nil ?_)) (star_plain hp)) (star_plain hp) rfl
  exact op_len (s := { s with heap := h₂, toks := tk₂ }) I₂ r₂ H₂
theorem s_listOf {e : PySem.Expr} {pos np} {g : Loc → Hp → Res PV} (ok : FmOk c n f) (hk : f.scope.names.lookup (S "list") = some .globalImplicit) (hv : nsIn c.K mainGlobals (S "list") = some none) (h : SoundE c f e g) (hp : plainE e = true) :
    SoundE c f (.Call (.Name (S "list") np) [e] [] pos) fun ρ σ => (g ρ σ).bind fun v σ => listOfV v σ := fun {s m nw ad ρ σ Q E} I H => by
  refine Call_ (bi_name ok I hk (by decide +kernel) hv PyProof.Rows.Boot.list (by decide +kernel) ?_) rfl
  refine PyProof.Rows.callWith_type1 (wpAny_items_cons (h I (Post.bind (R' := VR) H fun v' σ₂ h₂ tk₂ nw₂ ad₂ u' I₂ X₂ r₂ H₂ => wpAny_items_nil ?_)) (star_plain hp)) (star_plain hp) rfl
  exact op_listOf (s := { s with heap := h₂, toks := tk₂ }) I₂ r₂ H₂
theorem s_tupleOf {e : PySem.Expr} {pos np} {g : Loc → Hp → Res PV} (ok : FmOk c n f) (hk : f.scope.names.lookup (S "tuple") = some .globalImplicit) (hv : nsIn c.K mainGlobals (S "tuple") = some none) (h : SoundE c f e g) (hp : plainE e = true) :
    SoundE c f (.Call (.Name (S "tuple") np) [e] [] pos) fun ρ σ => (g ρ σ).bind fun v σ => tupleOfV v σ := fun {s m nw ad ρ σ Q E} I H => by
  refine Call_ (bi_name ok I hk (by decide +kernel) hv PyProof.Rows.Boot.tuple (by decide +kernel) ?_) rfl
  refine PyProof.Rows.callWith_type1 (wpAny_items_cons (h I (Post.bind (R' := VR) H fun v' σ₂ h₂ tk₂ nw₂ ad₂ u' I₂ X₂ r₂ H₂ => wpAny_items_nil ?_)) (star_plain hp)) (star_plain hp) rfl
  exact op_tupleOf (s := { s with heap := h₂, toks := tk₂ }) I₂ r₂ H₂
end
end Mine
end
section
/-! Soundness, part 8: the top's tables, displays of dicts, slices, the script's cells. -/
open PySem PySem.W PySem.Calls PyProof.Rows
set_option maxRecDepth 100000
set_option linter.unusedVariables false
namespace Mine

theorem DR.findBy {P : Params} {ad : Ads} {nw : Led} {x : String} : ∀ {l : List (String × PV)} {es : List DictEntry}, DR P ad nw l es →
    (∀ {v : PV}, getKey x l = some v → ∃ u, findBy Value.isStrOf (List.toArray es) (S x) = some u ∧ VR ad nw v u) ∧ (getKey x l = none → findBy Value.isStrOf (List.toArray es) (S x) = none)
  | _, _, .nil => ⟨fun h => by simp [getKey] at h, fun _ => rfl⟩
  | _, _, .cons (k := k) (t := t) (u := u) (es := es) a b => by
    have ih := DR.findBy (x := x) b
    have key : Value.isStrOf (S x) (.str (S k) t) = (k == x) := by rw [← isStr_of]; show (S k == S x) = _; exact S_beq k x
    unfold PySem.findBy at ih ⊢
    rw [List.find?_toArray] at ih ⊢
    rw [List.find?_cons]
    dsimp only
    rw [key]
    by_cases e : k = x
    · subst e
      refine ⟨fun h => ?_, fun h => ?_⟩
      · unfold getKey at h; rw [if_pos rfl] at h; cases h
        exact ⟨u, by simp, a⟩
      · unfold getKey at h; rw [if_pos rfl] at h; cases h
    · have ke : (k == x) = false := by simpa using e
      rw [ke]
      unfold getKey
      rw [if_neg e]
      exact ih
theorem DR.keys {P : Params} {ad : Ads} {nw : Led} : ∀ {l : List (String × PV)} {es : List DictEntry}, DR P ad nw l es → KeysLit P es
  | _, _, .nil => trivial
  | _, _, .cons a b => ⟨⟨_, _, rfl, rfl⟩, b.keys⟩

section
variable {c : FC} {n : Nat} {f : Fm} {k : Ck} {cf : CF}

theorem topDict_map {x : String} {l : List (String × PV)} {a : Addr} {es : List DictEntry} {j : Nat} {h : Heap} (X : c.K.In h) (hl : c.K.lookup a = some ⟨.type "dict", none, .dict (List.toArray es) j, #[]⟩) (dr : DR c.w.params [] [] l es) :
    h.MapOf (strKind c.prog c.w) a (fun k => findBy Value.isStrOf (List.toArray es) k) := mapOf_K X hl (by simpa using dr.keys)

theorem VR.anywhere {ad : Ads} {nw : Led} {v : PV} {u : Value} (r : VR [] [] v u) : VR ad nw v u := r.mono (fun _ _ e => by simp at e) fun _ _ _ e => by simp at e
theorem VRs.anywhere {ad : Ads} {nw : Led} {v : List PV} {u : List Value} (r : VRs [] [] v u) : VRs ad nw v u := r.mono (fun _ _ e => by simp at e) fun _ _ _ e => by simp at e

theorem s_gget {x : String} {u v : PySem.Expr} {pos np apos} {gu gv : Loc → Hp → Res PV} (ok : FmOk c n f) (hk : f.scope.names.lookup (S x) = some .globalImplicit) (hd : (S x == ("__debug__" : Str)) = false) {l : List (String × PV)} (hx : gdict x = some l) (td : TopDict c x l)
    (hpos : (apos.endLine == pos.line) = true) (hu : SoundE c f u gu) (hv : SoundE c f v gv) (pu : plainE u = true) (pv : plainE v = true) :
    SoundE c f (.Call (.Attribute (.Name (S x) np) (S "get") apos) [u, v] [] pos) fun ρ σ => (gu ρ σ).bind fun k σ => (gv ρ σ).bind fun dv σ => match gdict x, k with
      | some t, .str k => .ok ((getKey k t).getD dv) σ
      | _, _ => .stuck := fun {s m nw ad ρ σ Q E} I H => by
  obtain ⟨a, es, j, h1, h2, dr, h3⟩ := td
  refine MethodCall_ (fn_name ok I hk hd h1 ?_) (methodCall_plain rfl (fun y hy => by rcases List.mem_cons.mp hy with rfl | hy; exact pu; rw [List.mem_singleton] at hy; subst hy; exact pv) (by simp) hpos)
  have M₀ := topDict_map (x := x) (ok.X.keeps I.F.keep) h2 dr
  refine getMethod_builtin M₀.typeIs PySem.F.plainAttrs_dict PySem.F.slot_dict_get PySem.F.type_dict_get M₀.noDict ?_
  refine callWith_method1 (wpAny_items_cons (hu I (Post.bind (R' := VR) H fun k' σ₁ h₁ tk₁ nw₁ ad₁ u₁ I₁ X₁ r₁ H₁ => ?_)) (star_plain pu)) (star_plain pu) (star_any fun y hy => by rw [List.mem_singleton] at hy; subst hy; exact pv)
  refine wpAny_items_cons (hv (s := { s with heap := h₁, toks := tk₁ }) I₁ (Post.bind (R' := VR) H₁ fun d' σ₂ h₂ tk₂ nw₂ ad₂ u₂ I₂ X₂ r₂ H₂ => wpAny_items_nil ?_)) (star_plain pv)
  rw [hx] at H₂
  cases k' with
  | str key =>
    dsimp only at H₂
    cases r₁ with
    | str _ t =>
      have M := topDict_map (x := x) (h := h₂) (ok.X.keeps I₂.F.keep) h2 dr
      refine call_meetsIn PySem.F.slot_dict_get (M.typeIs (s := { s with heap := h₂, toks := tk₂ })) PySem.F.entry_dict_get (PySem.F.args_dict_get_3 _ _ _) (meets_dict_get_default (strKind c.prog c.w) a (strKind_is c.prog c.w (S key) t) h3 u₂) ⟨_, M, ?_⟩
      cases hg : getKey key l with
      | none =>
        rw [hg] at H₂
        rw [dr.findBy.2 hg]
        show Q u₂ { s with heap := h₂, toks := tk₂ + 1 }
        exact Post.here (tk := tk₂ + 1) H₂ I₂ r₂
      | some y =>
        rw [hg] at H₂
        obtain ⟨w, hw, rw'⟩ := dr.findBy.1 hg
        rw [hw]
        show Q w { s with heap := h₂, toks := tk₂ + 1 }
        exact Post.here (tk := tk₂ + 1) H₂ I₂ rw'.anywhere
  | _ => exact H₂.elim

theorem s_gitem {x : String} {u : PySem.Expr} {pos np} {gu : Loc → Hp → Res PV} (ok : FmOk c n f) (hk : f.scope.names.lookup (S x) = some .globalImplicit) (hd : (S x == ("__debug__" : Str)) = false) {l : List (String × PV)} (hx : gdict x = some l) (td : TopDict c x l)
    (hu : SoundE c f u gu) (hs : notSlice u = true) :
    SoundE c f (.Subscript (.Name (S x) np) u pos) fun ρ σ => (gu ρ σ).bind fun k σ => match gdict x, k with
      | some t, .str k => (match getKey k t with | some v => .ok v σ | Option.none => .stuck)
      | _, _ => .stuck := fun {s m nw ad ρ σ Q E} I H => by
  obtain ⟨a, es, j, h1, h2, dr, h3⟩ := td
  refine Subscript_ (fn_name ok I hk hd h1 ?_)
  refine hu I (Post.bind (R' := VR) H fun k' σ₁ h₁ tk₁ nw₁ ad₁ u₁ I₁ X₁ r₁ H₁ => ?_)
  rw [hx] at H₁
  cases k' with
  | str key =>
    dsimp only at H₁
    cases r₁ with
    | str _ t =>
      have M := topDict_map (x := x) (h := h₁) (ok.X.keeps I₁.F.keep) h2 dr
      split at H₁
      · rename_i y hg
        obtain ⟨w, hw, rw'⟩ := dr.findBy.1 hg
        exact tail_any (M.typeIs (s := { s with heap := h₁, toks := tk₁ })) slot_dict_getitem.lookup (wpAny_getItem_of (strKind_is c.prog c.w (S key) t) M hw (Post.here (tk := tk₁ + 1) H₁ I₁ rw'.anywhere)) (subscripted_plain hs _ _)
      · exact H₁.elim
  | _ => exact H₁.elim

theorem s_inG {x : String} {l : PySem.Expr} {pos np} {ga : Loc → Hp → Res PV} (ok : FmOk c n f) (hk : f.scope.names.lookup (S x) = some .globalImplicit) (hd : (S x == ("__debug__" : Str)) = false)
    (gt : ∀ l, gtup x = some l → TopTup c x l) (gd : ∀ l, gdict x = some l → TopDict c x l) (hsome : ((gtup x).isSome || (gdict x).isSome) = true) (ha : SoundE c f l ga) :
    SoundE c f (.Compare l [.In] [.Name (S x) np] pos) (fun ρ σ => (ga ρ σ).bind fun v σ => match gtup x, gdict x, v with
      | some l, _, v => (match inL v l with | some r => .ok (.bool r) σ | Option.none => .stuck)
      | Option.none, some d, .str k => .ok (.bool (getKey k d).isSome) σ
      | _, _, _ => .stuck) ∧
    SoundT c f (.Compare l [.In] [.Name (S x) np] pos) (fun ρ σ => testR ((ga ρ σ).bind fun v σ => match gtup x, gdict x, v with
      | some l, _, v => (match inL v l with | some r => .ok (.bool r) σ | Option.none => .stuck)
      | Option.none, some d, .str k => .ok (.bool (getKey k d).isSome) σ
      | _, _, _ => .stuck)) := by
  have hu : f.A.units + 64 < cLine := by have := ok.units; show f.A₀.units + 3 + 64 < cLine; omega
  have key : ∀ {s : Shared} {m : Str → Option Value} {nw : Led} {ad : Ads} {ρ : Loc} {σ : Hp} {Q : Value → Shared → Prop} {E : Value → Shared → Prop}, Inv c f m nw ad ρ σ s.heap →
      Post VR c f m ad nw ρ s Q E ((ga ρ σ).bind fun v σ => match gtup x, gdict x, v with
      | some l, _, v => (match inL v l with | some r => .ok (.bool r) σ | Option.none => .stuck)
      | Option.none, some d, .str k => .ok (.bool (getKey k d).isSome) σ
      | _, _, _ => .stuck) →
      wpAny (model c.prog c.w) f.A (eval l f.env) (fun a s₁ => wpAny (model c.prog c.w) f.A (eval (.Name (S x) np) f.env) (fun b s₂ => wpAny (model c.prog c.w) f.A (compareOp .In a b) Q E s₂) E s₁) E s := by
    intro s m nw ad ρ σ Q E I H
    refine ha I (Post.bind (R' := VR) H fun v' σ₁ h₁ tk₁ nw₁ ad₁ u₁ I₁ X₁ r₁ H₁ => ?_)
    cases hgt : gtup x with
    | some tl =>
      rw [hgt] at H₁
      dsimp only at H₁
      obtain ⟨a, vs, dd, j, sl, t1, t2, tr⟩ := gt tl hgt
      refine fn_name (s := { s with heap := h₁, toks := tk₁ }) ok I₁ hk hd t1 ?_
      split at H₁
      · rename_i r hr
        unfold inL at hr
        split at hr
        · rename_i hf
          simp only [Bool.and_eq_true, List.all_eq_true] at hf
          obtain ⟨as, qa⟩ := reads_pd I₁.N 20 r₁ hf.1
          obtain ⟨bs, qb⟩ := readsL_pd I₁.N 20 (VRs.anywhere (ad := ad₁) (nw := nw₁) tr) hf.2
          have la := lay_pd v' 20 hf.1
          have lb := layL_pd tl 20 hf.2
          have rt : Reads h₁ (.ref a) (.tuple (pdL tl)) _ := .tuple (ok.X.keeps I₁.F.keep _ _ t2) rfl rfl (by simpa using qb)
          have er : ((pdL tl).any fun y => PyData.eqv y (pd v')) = r := by rw [any_pd 20 20 hf.1 hf.2]; exact Option.some.inj hr
          have hu' : f.A.units + 1 + min (PyData.depthAll (pdL tl)) (pd v').depth < cLine := by
            have := Nat.min_le_right (PyData.depthAll (pdL tl)) (pd v').depth
            omega
          exact SeqAt.in_tuple_reads (s := { s with heap := h₁, toks := tk₁ }) rt qa lb.1 la.1 hu' (by rw [er]; exact Post.here (tk := tk₁) H₁ I₁ (.bool _))
        · cases hr
      · exact H₁.elim
    | none =>
      rw [hgt] at H₁ hsome
      cases hgd : gdict x with
      | none => rw [hgd] at hsome; simp at hsome
      | some dl =>
        rw [hgd] at H₁
        obtain ⟨a, es, j, t1, t2, dr, t3⟩ := gd dl hgd
        refine fn_name (s := { s with heap := h₁, toks := tk₁ }) ok I₁ hk hd t1 ?_
        cases v' with
        | str key =>
          dsimp only at H₁
          cases r₁ with
          | str _ t =>
            have M := topDict_map (x := x) (h := h₁) (ok.X.keeps I₁.F.keep) t2 dr
            refine wpAny_in_of (s := { s with heap := h₁, toks := tk₁ }) (strKind_is c.prog c.w (S key) t) t3 M ?_
            have e : (findBy Value.isStrOf (List.toArray es) (S key)).isSome = (getKey key dl).isSome := by
              cases hg : getKey key dl with
              | none => rw [dr.findBy.2 hg]; rfl
              | some y => obtain ⟨w, hw, _⟩ := dr.findBy.1 hg; rw [hw]; rfl
            rw [e]
            exact Post.here (tk := tk₁ + 1) H₁ I₁ (.bool _)
        | _ => exact H₁.elim
  refine ⟨fun I H => wpAny_Compare1 (key I H) rfl, fun {s m nw ad ρ σ Q E} I H => ?_⟩
  refine wpAny_isTrue_Compare1 (key I (Q := fun c₁ s₃ => wpAny (model c.prog c.w) f.A (truthy c₁) Q E s₃) ?_) rfl
  have := Post.bind (R' := VR) (Q' := fun c₁ s₃ => wpAny (model c.prog c.w) f.A (truthy c₁) Q E s₃) H fun v σ₁ h₁ tk₁ nw₁ ad₁ u I₁ X₁ r H₁ => by
    unfold truth at H₁
    split at H₁
    · rename_i b hb
      split at hb
      · cases hb; cases r
        exact wpAny_truthy_bool (Post.here (tk := tk₁) H₁ I₁ rfl)
      · cases hb
    · exact H₁.elim
  exact this

/-- slices of lists -/
theorem slice_go {v : PySem.Expr} {lo hi : Option PySem.Expr} {p pos} {ga : Loc → Hp → Res PV} {g : PV → Hp → Res PV} (ha : SoundE c f v ga)
    {s : Shared} {m : Str → Option Value} {nw : Led} {ad : Ads} {ρ : Loc} {σ : Hp} {Q : Value → Shared → Prop} {E : Value → Shared → Prop} (I : Inv c f m nw ad ρ σ s.heap) (H : Post VR c f m ad nw ρ s Q E ((ga ρ σ).bind g))
    (next : ∀ x σ₁ h₁ tk₁ nw₁ ad₁ u, Inv c f m nw₁ ad₁ ρ σ₁ h₁ → Ext ad nw ad₁ nw₁ → VR ad₁ nw₁ x u → Post VR c f m ad₁ nw₁ ρ { s with heap := h₁, toks := tk₁ } Q E (g x σ₁) →
      wpAny (model c.prog c.w) f.A (evalPart lo f.env) (fun l s₁ => wpAny (model c.prog c.w) f.A (evalPart hi f.env) (fun h s₂ =>
        wpAny (model c.prog c.w) f.A (subscriptTail v (.Slice lo hi none p) u (.ref s₂.heap.objs.size)) Q E { s₂ with heap := s₂.heap.push { cls := .type "slice", data := .fields #[l, h, .none] } }) E s₁) E { s with heap := h₁, toks := tk₁ }) :
    wpAny (model c.prog c.w) f.A (eval (.Subscript v (.Slice lo hi none p) pos) f.env) Q E s := by
  refine Subscript_ (ha I (Post.bind (R' := VR) H fun x σ₁ h₁ tk₁ nw₁ ad₁ u I₁ X₁ r₁ H₁ => ?_))
  refine wpAny_Slice (wpAny_mono (next x σ₁ h₁ tk₁ nw₁ ad₁ u I₁ X₁ r₁ H₁) (fun l s₁ hl => wpAny_mono hl (fun hh s₂ h₂ => evalPart_none_step h₂) fun _ _ e => e) fun _ _ e => e)

theorem natOf_some {v : PV} {k : Nat} (h : natOf v = some k) : v = .int (k : Int) ∧ k ≤ 1000000000000 := by
  unfold natOf at h
  split at h
  · split at h
    · rename_i hb
      cases h
      exact ⟨by congr 1; omega, by omega⟩
    · cases h
  · cases h

theorem adjust_cut {l : Option Int} {a b n : Nat} (hl : l = some (a : Int) ∨ (l = none ∧ a = 0)) (hab : a ≤ b) (hbn : b ≤ n) : Builtin.Slice.sliceAdjust l (some (b : Int)) 1 (n : Int) = ((a : Int), (b : Int)) := by
  unfold Builtin.Slice.sliceAdjust
  have h1 : ¬ ((1 : Int) < 0) := by omega
  have h3 : ¬ ((b : Int) < 0) := by omega
  rcases hl with rfl | ⟨rfl, rfl⟩
  · have h2 : ¬ ((a : Int) < 0) := by omega
    simp only [h1, h2, h3, if_false]
    congr 1 <;> omega
  · simp only [h1, h3, if_false]
    congr 1
    omega
theorem places_cut (a b : Nat) (hab : a ≤ b) : Builtin.Slice.slicePlaces (a : Int) (b : Int) 1 = b - a := by
  unfold Builtin.Slice.slicePlaces
  have h1 : (1 : Int) > 0 := by omega
  simp only [h1, if_true, Int.ediv_one]
  split <;> omega
theorem pick_cut (xs : Array Value) (a b : Nat) (hab : a ≤ b) (hb : b ≤ xs.size) : ((List.range (b - a)).filterMap fun (k : Nat) => xs[((a : Int) + (k : Int) * 1).toNat]?).toArray = ((xs.toList.take b).drop a).toArray := by
  have e : (fun (k : Nat) => xs[((a : Int) + (k : Int) * 1).toNat]?) = fun k => xs[a + k]? := by
    funext k
    have : ((a : Int) + (k : Int) * 1).toNat = a + k := by omega
    rw [this]
  rw [e]
  have := pick_run xs a (b - a)
  rw [List.filterMap_map] at this
  have e2 : ((fun x => xs[x]?) ∘ fun x => a + x) = fun k => xs[a + k]? := rfl
  rw [e2] at this
  rw [this, List.take_drop, Nat.add_sub_cancel' hab]

theorem getItem_tuple_cut {prog : Program} {w : World} {A : Around} {E : Value → Shared → Prop} {s : Shared} {t sl : Addr} {items : Array Value} {vl : Value} {lo : Option Int} {a b : Nat} {u : Tok} {Q : Value → Shared → Prop} (ht : IsTup s.heap t items)
    (hs : s.heap.IsSliceOf sl vl (.int (b : Int) u) .none) (pl : IsPart vl lo) (hl : lo = some (a : Int) ∨ (lo = none ∧ a = 0)) (hab : a ≤ b) (hb : b < items.size)
    (h : Q (.ref s.heap.objs.size) { s with heap := s.heap.push { cls := .type "tuple", data := .seq ((items.toList.take b).drop a).toArray } })
    (hsz : items.size ≤ sizeLine) : wpAny (model prog w) A (getItem (.ref t) (.ref sl)) Q E s := by
  have hdrop : sizeOk (.seq ((items.toList.take b).drop a).toArray) := by
    show ((items.toList.take b).drop a).toArray.size ≤ sizeLine
    rw [List.size_toArray, List.length_drop, List.length_take, Array.length_toList]
    omega
  obtain ⟨os, hos, hcs, hds⟩ := id hs
  have hTs : s.TypeIs (.ref sl) "slice" := ⟨os, hos, hcs⟩
  unfold getItem
  try with_reducible refine wpAny_holding ?_
  first | refine wpAny_bind (wpAny_pure ?_) | skip
  refine wpAny_bind (wpAny_sequenceKey ht.typeIs (by decide) ?_)
  refine wpAny_bind (wpAny_callSpecial?_slot (name := Str.ofString "__getitem__") ht.typeIs slot_tuple_getitem
    (wpAny_call_entry slot_tuple_getitem ht.typeIs entry_tuple_getitem ?_ (args_tuple_getitem _ _)))
  show wpAny _ _ (Builtin.Tuple.tupleItemsOf (.ref t) >>= _) _ _ s
  refine wpAny_bind (tupleItemsOf_ ht ?_)
  refine wpAny_bind (wpAny_typeOf hTs ?_)
  rw [if_pos (by decide)]
  have fin : ∀ {Q' : Int × Int × Nat → Shared → Prop}, Q' ((a : Int), 1, b - a) s → wpAny (model prog w) A.in1 (Builtin.Slice.sliceApplied (.ref sl) (pure (items.size : Int))) Q' (fun e s' => E e s') s := by
    intro Q' hq
    unfold Builtin.Slice.sliceApplied Builtin.Slice.sliceFields
    refine wpAny_bind (wpAny_bind (wpAny_field hos hds (x := vl) rfl (wpAny_bind (wpAny_field hos hds (x := .int (b : Int) u) rfl (wpAny_bind (wpAny_field hos hds (x := .none) rfl (wpAny_pure ?_)))))))
    refine wpAny_bind (slicePart_none ?_)
    show wpAny _ _ (if ((1 : Int) == 0) = true then _ else _) _ _ s
    rw [if_neg (by decide)]
    have go : wpAny (model prog w) A.in1 (pure ((a : Int), (1 : Int), Builtin.Slice.slicePlaces (a : Int) (b : Int) 1)) Q' (fun e s' => E e s') s := by
      rw [places_cut a b hab]; exact wpAny_pure hq
    cases pl with
    | none =>
      refine wpAny_bind (slicePart_none (wpAny_bind (slicePart_int (wpAny_bind (wpAny_pure ?_)))))
      show wpAny _ _ (match Builtin.Slice.sliceAdjust none (some (b : Int)) 1 (items.size : Int) with | (lo, hi) => pure (lo, (1 : Int), Builtin.Slice.slicePlaces lo hi 1)) _ _ s
      rw [adjust_cut hl hab (Nat.le_of_lt hb)]
      exact go
    | int i t' =>
      refine wpAny_bind (slicePart_int (wpAny_bind (slicePart_int (wpAny_bind (wpAny_pure ?_)))))
      show wpAny _ _ (match Builtin.Slice.sliceAdjust (some i) (some (b : Int)) 1 (items.size : Int) with | (lo, hi) => pure (lo, (1 : Int), Builtin.Slice.slicePlaces lo hi 1)) _ _ s
      rw [adjust_cut hl hab (Nat.le_of_lt hb)]
      exact go
  refine wpAny_bind (fin ?_)
  have hno : ¬ (((a : Int) == 0 && (1 : Int) == 1 && (b - a) == items.size) = true) := by
    have : ((b - a) == items.size) = false := by rw [beq_eq_false_iff_ne]; omega
    rw [this]; simp
  show wpAny _ _ (if ((a : Int) == 0 && (1 : Int) == 1 && (b - a) == items.size) = true then _ else _) _ _ s
  rw [if_neg hno, pick_cut items a b hab (Nat.le_of_lt hb)]
  first
    | exact wpAny_bind (m := Builtin.Tuple.tupleExact _) (wpAny_newObj_type (wpAny_pure ⟨_, rfl, wpAny_pure h⟩) hdrop)
    | exact wpAny_bind (m := Builtin.Tuple.tupleExact _) (wpAny_newObj_type (wpAny_bind (wpAny_pure (wpAny_pure ⟨_, rfl, wpAny_pure h⟩))) hdrop)
    | exact wpAny_bind (wpAny_bind (m := Builtin.Tuple.tupleExact _) (wpAny_newObj_type (wpAny_pure (wpAny_pure ⟨_, rfl, wpAny_pure h⟩)) hdrop))
    | exact wpAny_bind (wpAny_bind (m := Builtin.Tuple.tupleExact _) (wpAny_newObj_type (wpAny_pure ⟨_, rfl, wpAny_pure h⟩) hdrop))

/-- the end of a cut out of a tuple -/
theorem cut_end {v lo hi : Option PySem.Expr} {p : Pos} {ve : PySem.Expr} {s : Shared} {m : Str → Option Value} {nw : Led} {ad : Ads} {ρ : Loc} {σ : Hp} {Q : Value → Shared → Prop} {E : Value → Shared → Prop} {l : List PV} {u : Value} {vl : Value} {lov : Option Int} {a b : Nat} {t : Tok}
    (I : Inv c f m nw ad ρ σ s.heap) (r : VR ad nw (.tup l) u) (pl : IsPart vl lov) (hl : lov = some (a : Int) ∨ (lov = none ∧ a = 0)) (H : Post VR c f m ad nw ρ s Q E (cutV l a b σ)) :
    wpAny (model c.prog c.w) f.A (subscriptTail ve (.Slice lo hi none p) u (.ref s.heap.objs.size)) Q E { s with heap := s.heap.push { cls := .type "slice", data := .fields #[vl, .int (b : Int) t, .none] } } := by
  unfold cutV at H
  split at H
  · rename_i hb
    cases r with
    | tup hm hl' r' =>
      rename_i at' vs' nt'
      have I₃ := I.push { cls := .type "slice", data := .fields #[vl, .int (b : Int) t, .none] } rfl
      have L₃ := led_tup I₃.N (.tail _ hm)
      have e := r'.length
      refine tail_any (L₃.typeIs (s := { s with heap := _ })) slot_tuple_getitem.lookup (getItem_tuple_cut (a := a) (b := b) L₃ (Heap.IsSliceOf.new ..) pl hl hb.1 (by rw [List.size_toArray, e]; exact hb.2) ?_ (by rw [List.size_toArray, e, sizeLine_eq]; omega)) rfl
      have I₄ := I₃.push (tupObj ((List.take b vs').drop a) 0) rfl
      have H₃ := Post.shift (h := s.heap.push { cls := .type "slice", data := .fields #[vl, .int (b : Int) t, .none] }) (tk := s.toks) (Ext.add1 (s.heap.objs.size, { cls := .type "slice", data := .fields #[vl, .int (b : Int) t, .none] })) H
      refine Post.newTup (s := { s with heap := s.heap.push _ }) (tk := s.toks) H₃ (((r'.take b).drop a).ext (Ext.add1 _)) ?_ I₄
      have := List.length_take_le' b l
      rw [List.length_drop]; omega
  · exact H.elim

theorem s_sliceTo {v h : PySem.Expr} {p pos} {ga gh : Loc → Hp → Res PV} (ha : SoundE c f v ga) (hh : SoundE c f h gh) :
    SoundE c f (.Subscript v (.Slice none (some h) none p) pos) fun ρ σ => (ga ρ σ).bind fun x σ => (gh ρ σ).bind fun h σ => match x, natOf h with
      | .obj n, some h => sliceV (.obj n) 0 (some h) σ
      | .tup l, some h => cutV l 0 h σ
      | _, _ => .stuck := fun {s m nw ad ρ σ Q E} I H => by
  refine slice_go ha I H fun x σ₁ h₁ tk₁ nw₁ ad₁ u I₁ X₁ r₁ H₁ => evalPart_none_step (evalPart_some_step ?_)
  refine hh (s := { s with heap := h₁, toks := tk₁ }) I₁ (Post.bind (R' := VR) H₁ fun y σ₂ h₂ tk₂ nw₂ ad₂ u' I₂ X₂ r₂ H₂ => ?_)
  split at H₂
  · rename_i i k hk
    obtain ⟨rfl, hb⟩ := natOf_some hk
    cases r₂ with
    | int _ t =>
      have r₁' := r₁.ext X₂
      cases r₁' with
      | obj hx =>
        unfold sliceV at H₂
        dsimp only at H₂
        · split at H₂
          · rename_i l hl
            obtain ⟨vs, k', m1, r, m3, _⟩ := I₂.listAt hl hx
            have I₃ := I₂.push { cls := .type "slice", data := .fields #[.none, .int (k : Int) t, .none] } rfl
            have L₃ := led_list I₃.N (.tail _ m1)
            refine tail_any (L₃.typeIs (s := { s with heap := _, toks := tk₂ })) slot_list_getitem.lookup (wpAny_getItem_list_slice L₃ (Heap.IsSliceOf.new ..) .none (.int _ t) .none (by simp) ?_ (by rw [List.size_toArray, r.length, sizeLine_eq]; omega)) rfl
            rw [slicePick_upto']
            have I₄ := I₃.push { cls := .type "list", data := .seq (List.take k vs).toArray } rfl
            have lt : ∀ p ∈ nw₂, p.1 < (h₂.push { cls := .type "slice", data := .fields #[.none, .int (k : Int) t, .none] }).objs.size := fun p hp => by
              rw [Heap.size_push]; exact Nat.lt_succ_of_lt (led_lt I₂.N p hp)
            have H₃ := Post.shift (h := h₂.push { cls := .type "slice", data := .fields #[.none, .int (k : Int) t, .none] }) (tk := tk₂) (Ext.add1 (h₂.objs.size, { cls := .type "slice", data := .fields #[.none, .int (k : Int) t, .none] })) H₂
            refine Post.newList (s := { s with heap := h₂.push _, toks := tk₂ }) (tk := tk₂) H₃ I₃ ((r.take k).ext (Ext.add1 _)) ?_ (led_lt I₃.N) I₄
            have := List.length_take_le' k l
            simp only [List.drop_zero]
            omega
          · exact H₂.elim
  · rename_i l k hk
    obtain ⟨rfl, hb⟩ := natOf_some hk
    cases r₂ with
    | int _ t => exact cut_end (s := { s with heap := h₂, toks := tk₂ }) (v := none) I₂ (r₁.ext X₂) .none (.inr ⟨rfl, rfl⟩) H₂
  · exact H₂.elim

theorem s_slice2 {v l h : PySem.Expr} {p pos} {ga gl gh : Loc → Hp → Res PV} (ha : SoundE c f v ga) (hl : SoundE c f l gl) (hh : SoundE c f h gh) :
    SoundE c f (.Subscript v (.Slice (some l) (some h) none p) pos) fun ρ σ => (ga ρ σ).bind fun x σ => (gl ρ σ).bind fun l σ => (gh ρ σ).bind fun h σ => match x, natOf l, natOf h with
      | .tup t, some l, some h => cutV t l h σ
      | _, _, _ => .stuck := fun {s m nw ad ρ σ Q E} I H => by
  refine slice_go ha I H fun x σ₁ h₁ tk₁ nw₁ ad₁ u I₁ X₁ r₁ H₁ => evalPart_some_step ?_
  refine hl (s := { s with heap := h₁, toks := tk₁ }) I₁ (Post.bind (R' := VR) H₁ fun y σ₂ h₂ tk₂ nw₂ ad₂ u' I₂ X₂ r₂ H₂ => evalPart_some_step ?_)
  refine hh (s := { s with heap := h₂, toks := tk₂ }) I₂ (Post.bind (R' := VR) H₂ fun z σ₃ h₃ tk₃ nw₃ ad₃ u'' I₃ X₃ r₃ H₃ => ?_)
  split at H₃
  · rename_i t' a b ha' hb'
    obtain ⟨rfl, _⟩ := natOf_some ha'
    obtain ⟨rfl, _⟩ := natOf_some hb'
    cases r₂ with
    | int _ ta =>
      cases r₃ with
      | int _ tb => exact cut_end (s := { s with heap := h₃, toks := tk₃ }) (v := none) I₃ (r₁.ext (X₂.trans X₃)) (.int _ ta) (.inl rfl) H₃
  · exact H₃.elim

theorem s_sliceFrom {v h : PySem.Expr} {p pos} {ga gh : Loc → Hp → Res PV} (ha : SoundE c f v ga) (hh : SoundE c f h gh) :
    SoundE c f (.Subscript v (.Slice (some h) none none p) pos) fun ρ σ => (ga ρ σ).bind fun x σ => (gh ρ σ).bind fun h σ => match x, natOf h with
      | .obj n, some h => sliceV (.obj n) h Option.none σ
      | _, _ => .stuck := fun {s m nw ad ρ σ Q E} I H => by
  refine slice_go ha I H fun x σ₁ h₁ tk₁ nw₁ ad₁ u I₁ X₁ r₁ H₁ => evalPart_some_step ?_
  refine hh (s := { s with heap := h₁, toks := tk₁ }) I₁ (Post.bind (R' := VR) H₁ fun y σ₂ h₂ tk₂ nw₂ ad₂ u' I₂ X₂ r₂ H₂ => evalPart_none_step ?_)
  split at H₂
  · rename_i i k hk
    obtain ⟨rfl, hb⟩ := natOf_some hk
    cases r₂ with
    | int _ t =>
      have r₁' := r₁.ext X₂
      cases r₁' with
      | obj hx =>
        unfold sliceV at H₂
        dsimp only at H₂
        · split at H₂
          · rename_i l hl
            obtain ⟨vs, k', m1, r, m3, _⟩ := I₂.listAt hl hx
            have I₃ := I₂.push { cls := .type "slice", data := .fields #[.int (k : Int) t, .none, .none] } rfl
            have L₃ := led_list I₃.N (.tail _ m1)
            refine tail_any (L₃.typeIs (s := { s with heap := _, toks := tk₂ })) slot_list_getitem.lookup (wpAny_getItem_list_slice L₃ (Heap.IsSliceOf.new ..) (.int _ t) .none .none (by simp) ?_ (by rw [List.size_toArray, r.length, sizeLine_eq]; omega)) rfl
            rw [slicePick_from']
            have I₄ := I₃.push { cls := .type "list", data := .seq (List.drop k vs).toArray } rfl
            have H₃ := Post.shift (h := h₂.push { cls := .type "slice", data := .fields #[.int (k : Int) t, .none, .none] }) (tk := tk₂) (Ext.add1 (h₂.objs.size, { cls := .type "slice", data := .fields #[.int (k : Int) t, .none, .none] })) H₂
            refine Post.newList (s := { s with heap := h₂.push _, toks := tk₂ }) (tk := tk₂) H₃ I₃ ((r.drop k).ext (Ext.add1 _)) ?_ (led_lt I₃.N) I₄
            have := List.length_drop (i := k) (l := l)
            omega
          · exact H₂.elim
  · exact H₂.elim
end
end Mine
end
section
/-! Soundness, part 9: displays of dicts, the script's cells, all terms. -/
open PySem PySem.W PySem.Calls PyProof.Rows
set_option maxRecDepth 100000
set_option linter.unusedVariables false
namespace Mine

theorem chkKeys_facts : ∀ {ks : List String} {keys : List (Option PySem.Expr)}, chkKeys ks keys = true → keys.all (·.isSome) = true ∧ keys.length = ks.length
  | [], keys, h => by
    obtain rfl := chkKeys_nil h
    exact ⟨rfl, rfl⟩
  | k :: ks, keys, h => by
    obtain ⟨kk, p, r, rfl, h1⟩ := chkKeys_cons h
    obtain ⟨q1, q2⟩ := chkKeys_facts h1
    exact ⟨q1, congrArg (· + 1) q2⟩

theorem PR.facts {ad : Ads} {nw : Led} : ∀ {ks : List String} {l : List PV} {r : List (Value × Value)}, PR ad nw ks l r → allStrKeys r = true ∧ (strPairs r).map (·.1) = ks.map S ∧ KR ad nw (ks.zip l) (strPairs r)
  | _, _, _, .nil => ⟨rfl, rfl, .nil⟩
  | _, _, _, .cons a b => by
    obtain ⟨q1, q2, q3⟩ := PR.facts b
    exact ⟨q1, by simp [strPairs, q2], .cons a q3⟩

theorem nodup_S {ks : List String} (h : ks.Nodup) : (ks.map S).Nodup := by
  induction ks with
  | nil => exact .nil
  | cons k r ih =>
    simp only [List.nodup_cons] at h
    simp only [List.map_cons, List.nodup_cons]
    refine ⟨fun hm => h.1 ?_, ih h.2⟩
    obtain ⟨x, hx, e⟩ := List.mem_map.mp hm
    exact S_inj e ▸ hx

section
variable {c : FC} {n : Nat} {f : Fm} {k : Ck} {cf : CF}

theorem s_dict {ks : List String} {keys : List (Option PySem.Expr)} {vals : List PySem.Expr} {pos} {g : Loc → Hp → Res PV} (ok : FmOk c n f) (hk : chkKeys ks keys = true) (h15 : ks.length ≤ 15) (h0 : ks ≠ []) (hl : ks.length = vals.length) (hn : ks.Nodup)
    (ha : SoundA c f vals g) : SoundE c f (.Dict keys vals pos) fun ρ σ => (g ρ σ).bind fun vs σ => newObj (.dict (ks.zip (argsOf vs))) σ := fun {s m nw ad ρ σ Q E} I H => by
  obtain ⟨kf1, kf2⟩ := chkKeys_facts hk
  obtain ⟨news, N, sub, close⟩ := I.grow1
  refine kdn_eval (knd := strKind c.prog c.w) I.F N ok.T.nolimit kf1 (by omega) (fun e => h0 (List.length_eq_zero_iff.mp (by rw [← kf2, e]; rfl))) (by omega) fun d h' o F' N' lt lo hd => ?_
  have I' := close h' d o F' N' lt
  have new : ∀ p ∈ nw, p.1 ≠ d := fun p hp e => Nat.lt_irrefl _ (e ▸ lt p (sub p hp))
  have off : d ∉ adrs ad := fun h => by
    obtain ⟨o, ho, _⟩ := I.adr_mem h
    exact new _ ho rfl
  refine ha.pairs hk hl (s := { s with heap := h' }) I' ?_
  dsimp only at H
  cases hg : g ρ σ with
  | stuck => rw [hg] at H; exact H.elim
  | err t i σ' =>
    rw [hg] at H
    exact fun e s' T => H e s' (Thrown.back (h := h') (tk := s.toks) (Ext.add1 (d, o)) T)
  | ok v σ₁ =>
    rw [hg] at H
    intro h₁ tk₁ nw₁ ad₁ r I₁ X₁ r₁
    obtain ⟨p1, p2, p3⟩ := PR.facts r₁
    have hm : (d, o) ∈ nw₁ := X₁.keep d o (.head _) off
    have hD : h₁.DictOf (strKind c.prog c.w) d [] := Heap.dictOf_iff.mpr ⟨o, (I₁.N _ hm).1, hd⟩
    refine display_done_str p1 (by rw [p2]; exact nodup_S hn) hD fun h₂ hD₂ hs => ?_
    obtain ⟨o₂, ho₂, hd₂⟩ := Heap.dictOf_iff.mp hD₂
    have off₁ : d ∉ adrs ad₁ := fun h => by
      rcases X₁.fresh d h with q | q
      · exact off q
      · exact q (d, o) (.head _) rfl
    have I₁' := I₁.adopt (o := .dict []) (q := (d, d)) ⟨o, [], hm, hd, .nil, by simp, rfl⟩ off₁ off₁
    have hlen : ad₁.length = σ₁.length := I₁.H.len
    have nt : ∀ vs n, o ≠ tupObj vs n := fun vs n e => by
      obtain ⟨_, _, hx, _⟩ := hd
      have := hx.1; rw [e] at this; simp at this
    have tup : ∀ a vs' n, (a, tupObj vs' n) ∈ nw₁ → (a, tupObj vs' n) ∈ updL nw₁ d o₂ := fun a vs' n hmm =>
      (mem_updL_ne fun (e : a = d) => by subst e; exact nt _ _ (nodup_get I₁.nd hm hmm)).mpr hmm
    have pre : ∀ (i : Nat) q, ad₁[i]? = some q → (ad₁ ++ [(d, d)])[i]? = some q := fun i q e => by
      rw [List.getElem?_append_left (List.getElem?_eq_some_iff.mp e).1]; exact e
    obtain ⟨I₂, X₂⟩ := I₁'.change (i := σ₁.length) (q := (d, d)) (po := .dict []) (po' := .dict (ks.zip (argsOf v))) (by rw [← hlen]; simp) (by simp) (.inl rfl) hm hs ho₂
      ⟨o₂, strPairs r, mem_updL_self hm, hd₂, p3.mono pre tup, by rw [List.length_zip]; have := Nat.min_le_left ks.length (argsOf v).length; omega, rfl⟩
    rw [List.set_append_right _ _ (Nat.le_refl _)] at I₂
    simp only [Nat.sub_self, List.set_cons_zero] at I₂
    have X : Ext ad nw (ad₁ ++ [(d, d)]) (updL nw₁ d o₂) := by
      refine ⟨fun i q e => pre i q (X₁.pre i q e), fun a oa h1 h2 => (mem_updL_ne (new _ h1)).mpr (X₁.keep a oa (.tail _ h1) h2), fun a vs n h1 => (mem_updL_ne (new _ h1)).mpr (X₁.tup a vs n (.tail _ h1)), fun a h => ?_⟩
      unfold adrs at h
      rw [List.flatMap_append, List.mem_append] at h
      rcases h with h | h
      · rcases X₁.fresh a h with q | q
        · exact .inl q
        · exact .inr fun p hp => q p (.tail _ hp)
      · simp at h
        subst h
        exact .inr new
    have H' : Post VR c f m ad nw ρ s Q E (.ok (.obj σ₁.length) (σ₁ ++ [.dict (ks.zip (argsOf v))])) := H
    exact H' h₂ (tk₁ + r.length) _ _ _ I₂ X (.obj (d := d) (by rw [← hlen]; simp))

theorem ints_mem : ∀ {vs : List Value} {ns : List Int}, IntsAre vs ns → ∀ v ∈ vs, ∃ i t, v = .int i t
  | _, _, .nil, v, h => by cases h
  | _, _, .cons n t r, v, h => by
    rcases List.mem_cons.mp h with rfl | h
    · exact ⟨n, t, rfl⟩
    · exact ints_mem r v h
theorem paired_cells {ad : Ads} {nw : Led} {md : Int} : ∀ {vs : List Value} {ns : List Int}, IntsAre vs ns → ∀ (k : Nat) {ys : List Value}, Paired (fun v y => ∃ i t t', v = Value.int i t ∧ y = Value.int (Int.fmod (i.natAbs : Int) md) t') (vs.take k) ys →
    VRs ad nw ((ns.take k).map fun i => PV.int (Int.fmod (i.natAbs : Int) md)) ys
  | _, _, .nil, k, ys, h => by
    rw [List.take_nil] at h ⊢
    cases h; exact .nil
  | _, _, .cons n t r, 0, ys, h => by cases h; exact .nil
  | _, _, .cons n t r, k + 1, ys, h => by
    rw [List.take_succ_cons] at h ⊢
    cases h with
    | cons a b =>
      obtain ⟨i, t1, t2, e, rfl⟩ := a
      cases e
      exact .cons (.int _ _) (paired_cells r k b)

/-- the script's first cells, each by abs and a remainder -/
theorem s_cells {lim : Nat} {md : Int} {pc1 pc2 pc3 pc4 pc5 pc6 pc7 pc8 pc9 pc10 : Pos} {k1 k2 : Nat} {scope : Scope} {pos : Pos} (ok : FmOk c n f) (hsc : f.scope.names.lookup (S "script") = some .local) (hmd : 0 < md) (hlim : lim ≤ 1000)
    (habs : nsIn c.K mainGlobals (S "abs") = some none) (hn : scope.names = [(S ".0", .local), (S "cell", .local), (S "abs", .globalImplicit)]) (hkind : scope.kind = .function) :
    SoundE c f (.ListComp (.BinOp (.Call (.Name (S "abs") pc1) [.Name (S "cell") pc2] [] pc3) .Mod (.Constant (.int md) k1 pc4) pc5) [⟨.Name (S "cell") pc6, .Subscript (.Name (S "script") pc7) (.Slice none (some (.Constant (.int (lim : Int)) k2 pc8)) none pc9) pc10, [], 0⟩] scope pos)
      fun ρ σ => match f.sc with
        | some ns => newObj (.rlist ((ns.take lim).map fun i => .int (Int.fmod (i.natAbs : Int) md))) σ
        | Option.none => .stuck := fun {s m nw ad ρ σ Q E} I H => by
  dsimp only at H
  have hscr := I.sc
  unfold ScOk at hscr
  cases hs : f.sc with
  | none => rw [hs] at H; exact H.elim
  | some ns =>
    rw [hs] at H hscr
    obtain ⟨l, vs, hm, hl, hi, hlen⟩ := hscr
    have hz := hi.length
    have hlk : ∀ y ∈ scope.names, y.2 = .local → scope.names.lookup y.1 = some .local := by
      rw [hn]; intro y hy hl
      simp only [List.mem_cons, List.not_mem_nil, or_false] at hy
      rcases hy with rfl | rfl | rfl
      · rfl
      · decide +kernel
      · cases hl
    refine wpAny_ListComp_map (fun _ => true) (fun v y => ∃ i t t', v = .int i t ∧ y = .int (Int.fmod (i.natAbs : Int) md) t') ok.handled (by rw [hn]; decide +kernel) (by rw [hn]; decide +kernel) hkind hlk (by rw [hn]; decide +kernel) ?_ fun _ => rfl
    refine Subscript_ (ld I.F hm ?_ ok.kind hsc (by decide +kernel))
    refine wpAny_Slice (evalPart_none_step (evalPart_some_step (wpAny_Constant_int (evalPart_none_step ?_))))
    have hls : s.heap.IsList l vs.toArray := stays_list I.F.keep hl
    have hsz : vs.length ≤ sizeLine := by rw [hz, sizeLine_eq]; omega
    refine tail_any (Heap.IsList.typeIs (s := { s with heap := s.heap.push _, toks := s.toks + 1 }) (hls.push _)) slot_list_getitem.lookup (wpAny_getItem_list_slice (hls.push _) (Heap.IsSliceOf.new ..) .none (.int _ _) .none (by simp) ?_ (by rw [List.size_toArray]; exact hsz)) rfl
    rw [slicePick_upto']
    have I₁ := I.push { cls := .type "slice", data := .fields #[.none, .int (lim : Int) s.toks, .none] } rfl
    have I₂ := I₁.push { cls := .type "list", data := .seq (List.take lim vs).toArray } rfl
    have hl2 := led_list I₂.N (.head _)
    refine ⟨_, (List.take lim vs).toArray, rfl, hl2, ?_, ?_, ?_, ?_⟩
    · have := List.length_take_le' lim vs
      rw [List.size_toArray]; omega
    · intro C v s₂ m₂ E' _ _ _ _
      exact wpAny_pure ⟨rfl, _, _, rfl, fun _ _ e => e⟩
    · intro C v s₂ m₂ E' hv _ hns hc hk
      have hv' : v ∈ vs := List.mem_of_mem_take (by simpa using hv)
      obtain ⟨i, t, rfl⟩ := ints_mem hi v hv'
      have kb : ∀ b o, c.base.get? b = some o → s₂.heap.get? b = some o := fun b o e => hk b o (I₂.F.keep b o e)
      refine wpAny_BinOp (Call_ (Calls.Name_function_global (env := compEnv scope C f.env) hkind (by show scope.names.lookup _ = _; rw [hn]; decide +kernel)
        (Calls.loadGlobal_builtin (env := compEnv scope C f.env) (ok.T.g.keeps kb) (mg_none_of ok.X ok.T.g habs) (ok.T.b.keeps kb) ((ok.T.builtins _ (by decide +kernel)).trans PyProof.Rows.Boot.abs) ?_) (by decide +kernel)) rfl)
      refine PyProof.Rows.callWith_builtin1 (wpAny_items_cons (wpAny_Name (wpAny_loadName_local hkind (by show scope.names.lookup _ = _; rw [hn]; decide +kernel) hns hc (wpAny_items_nil ?_)) (by decide +kernel)))
      refine call_abs_int fun u tk => ?_
      refine wpAny_Constant_int (mod_int' (by omega) ?_)
      have e : (if i < 0 then -i else i) = (i.natAbs : Int) := by split <;> omega
      rw [e]
      exact ⟨⟨i, t, _, rfl, rfl⟩, _, _, rfl, fun _ _ e => e⟩
    · intro D h' tk ys hD hys hp hk
      obtain ⟨o, ho, hcl, j, hdat⟩ := hys
      rw [show ((List.take lim vs).toArray.toList.filter fun _ => true) = List.take lim vs from List.filter_eq_self.mpr fun _ _ => rfl] at hp
      have I₃ := I₂.enter hk hD ho
      have hcur : o = { o with cls := .type "list", data := .seq ys j } := by rw [← hcl, ← hdat]
      have lt : ∀ p ∈ nw, p.1 ≠ D := fun p hp e => by
        have := (I₂.N p (.tail _ (.tail _ hp))).1
        rw [e, hD] at this; cases this
      have off : D ∉ adrs ad := fun h => by
        obtain ⟨o, ho, _⟩ := I.adr_mem h
        exact lt _ ho rfl
      have vr := fun nw' => paired_cells (ad := ad) (nw := nw') hi lim hp
      have hlen2 : ((ns.take lim).map fun i => PV.int (Int.fmod (i.natAbs : Int) md)).length ≤ 1000000 := by
        have := List.length_take_le' lim ns
        rw [List.length_map]; omega
      have I₄ := I₃.adopt (o := .rlist ((ns.take lim).map fun i => .int (Int.fmod (i.natAbs : Int) md))) (q := (D, D)) ⟨o, ys.toList, j, .head _, ⟨hcl, by simpa using hdat⟩, vr _, hlen2, rfl⟩ off off
      unfold newObj at H
      refine H h' tk _ _ _ I₄ (Ext.adopt (fun p hp => .tail _ (.tail _ (.tail _ hp))) lt lt) (.obj (d := D) (by rw [← I.H.len]; simp))
end
end Mine
end
section
/-! Soundness, part 10: every term that is checked. -/
open PySem PySem.W PySem.Calls PyProof.Rows
set_option maxRecDepth 100000
set_option linter.unusedVariables false
namespace Mine

noncomputable def SndT (c : FC) (f : Fm) (g : Loc → Hp → Res PV) : Tgt → Prop
  | .e x => SoundE c f x g ∧ SoundT c f x fun ρ σ => testR (g ρ σ)
  | .a l => SoundA c f l g
  | .b op l => SoundB c f op l g

theorem not_inv {a : Bool} (h : (!a) = true) : a = false := by rw [Bool.not_eq_true'] at h; exact h
theorem Ck.loc {k : Ck} {y : Str} {x : String} (h : k.isLoc y x = true) : y = S x ∧ k.names.lookup (S x) = some .local ∧ (S x == ("__debug__" : Str)) = false := by
  obtain ⟨h1, h2⟩ := and2 h
  obtain ⟨h3, h4⟩ := and2 h1
  obtain rfl := beq_iff_eq.mp h3
  exact ⟨rfl, beq_iff_eq.mp h4, not_inv h2⟩
theorem Ck.glob {k : Ck} {y : Str} {x : String} (h : k.isGlob y x = true) : y = S x ∧ k.names.lookup (S x) = some .globalImplicit ∧ (S x == ("__debug__" : Str)) = false := by
  obtain ⟨h1, h2⟩ := and2 h
  obtain ⟨h3, h4⟩ := and2 h1
  obtain rfl := beq_iff_eq.mp h3
  exact ⟨rfl, beq_iff_eq.mp h4, not_inv h2⟩

@[elab_as_elim] theorem Ck.loc_el {k : Ck} {y : Str} {x : String} {P : Str → Prop} (h : k.isLoc y x = true) (g : k.names.lookup (S x) = some .local → (S x == ("__debug__" : Str)) = false → P (S x)) : P y := by
  obtain ⟨e, h1, h2⟩ := Ck.loc h
  rw [e]; exact g h1 h2
@[elab_as_elim] theorem Ck.glob_el {k : Ck} {y : Str} {x : String} {P : Str → Prop} (h : k.isGlob y x = true) (g : k.names.lookup (S x) = some .globalImplicit → (S x == ("__debug__" : Str)) = false → P (S x)) : P y := by
  obtain ⟨e, h1, h2⟩ := Ck.glob h
  rw [e]; exact g h1 h2

theorem s_negint {c : FC} {f : Fm} {j : Int} {k p pos} : SoundE c f (.UnaryOp .USub (.Constant (.int j) k p) pos) fun _ σ => .ok (.int (-j)) σ := fun {s m nw ad ρ σ Q E} I H =>
  wpAny_UnaryOp (wpAny_Constant_int (PySem.P.neg_int (Post.here (E := E) (tk := s.toks + 1 + 1) H I (.int (-j) _))))

section
variable {c : FC} {n : Nat} {f : Fm} {k : Ck} {cf : CF}

theorem soundT (ok : FmOk c n f) (cs : CsOk c) (sy : SyOk c k) (kn : k.names = f.scope.names) (co : CallOk c f cf) : ∀ (pe : PE) (t : Tgt), chk k pe t = true → SndT c f (ev cf f.sc pe) t := by
  have E : ∀ {e : PySem.Expr} {g : Loc → Hp → Res PV}, SoundE c f e g → isTrue e f.env (eval e f.env) = (do let v ← eval e f.env; standAt e.pos; holding [v] (truthy v)) → SndT c f g (.e e) := fun h he => ⟨h, s_truth h he⟩
  have lk : ∀ {y : Str} {q : NameKind}, k.names.lookup y = some q → f.scope.names.lookup y = some q := fun h => kn ▸ h
  intro pe
  induction pe with
  | none =>
    intro t h
    refine kE_el h fun x h => ?_
    refine kConst_el h fun _ _ => ?_
    exact E s_none rfl
  | bool b =>
    intro t h
    refine kE_el h fun x h => ?_
    refine kConst_el h fun _ _ => ?_
    exact E s_bool rfl
  | int i =>
    intro t h
    refine kE_el h fun x h => ?_
    rcases Bool.or_eq_true_iff.mp h with h | h
    · refine kConst_el h fun _ _ => ?_
      exact E s_int rfl
    · replace h : kUn x (fun o y => o == .USub && kConst y (.int (-i))) = true := h
      refine kUn_el h fun o y p h => ?_
      refine and_el h fun h1 h2 => ?_
      refine beq_el h1 ?_
      refine kConst_el h2 fun _ _ => ?_
      have hh : ∀ {j : Int} {a b p}, - -i = j → SoundE c f (.UnaryOp .USub (.Constant (.int (-i)) a b) p) fun _ σ => .ok (.int j) σ := fun e => e ▸ s_negint
      exact E (hh (Int.neg_neg i)) rfl
  | str x =>
    intro t h
    refine kE_el h fun x h => ?_
    refine kConst_el h fun _ _ => ?_
    exact E s_str rfl
  | loc x =>
    intro t h
    refine kE_el h fun _ h => ?_
    refine kName_el h fun _ _ h => ?_
    refine Ck.loc_el h fun h1 h2 => ?_
    exact E (s_loc ok (lk h1) h2) rfl
  | gint x =>
    intro t h
    refine kE_el h fun _ h => ?_
    refine kName_el h fun _ _ h => ?_
    refine and_el h fun h0 h3 => ?_
    refine Ck.glob_el h0 fun h1 h2 => ?_
    obtain ⟨i, hi⟩ := Option.isSome_iff_exists.mp h3
    obtain ⟨tk, ht⟩ := sy.gi x i hi
    refine E (g := ev cf f.sc (.gint x)) ?_ rfl
    intro s m nw ad ρ σ Q E' I H
    refine s_gint ok (lk h1) h2 ht I ?_
    have e : ev cf f.sc (.gint x) ρ σ = .ok (.int i) σ := by show (match gintT x with | some i => Res.ok (PV.int i) σ | Option.none => .stuck) = _; rw [hi]
    rw [e] at H; exact H
  | bin op a b iha ihb =>
    intro t h
    refine kE_el h fun _ h => ?_
    refine kBin_el h fun l o r p h => ?_
    refine and_el h fun h hb => ?_
    refine and_el h fun ho ha => ?_
    refine beq_el ho ?_
    exact E (s_bin (iha _ ha).1 (ihb _ hb).1) rfl
  | cmp op a b iha ihb =>
    intro t h
    refine kE_el h fun _ h => ?_
    refine kCmp_el h fun l o r p h => ?_
    refine and_el h fun h hs => ?_
    refine and_el h fun h hb => ?_
    refine and_el h fun ho ha => ?_
    refine beq_el ho ?_
    exact s_cmp ok (iha _ ha).1 (ihb _ hb).1 hs
  | isin neg a b iha ihb =>
    intro t h
    refine kE_el h fun _ h => ?_
    refine kCmp_el h fun l o r p h => ?_
    refine and_el h fun h hs => ?_
    refine and_el h fun h hb => ?_
    refine and_el h fun ho ha => ?_
    refine beq_el ho ?_
    exact s_isin ok (iha _ ha).1 (ihb _ hb).1 hs
  | inG x a iha =>
    intro t h
    refine kE_el h fun _ h => ?_
    refine kCmp_el h fun l o r p h => ?_
    refine and_el h fun h hs => ?_
    refine and_el h fun h ha => ?_
    refine and_el h fun ho h0 => ?_
    refine beq_el ho ?_
    refine kName_el h0 fun _ _ h0 => ?_
    refine Ck.glob_el h0 fun h1 h2 => ?_
    exact s_inG ok (lk h1) h2 (fun l => sy.gt x l) (fun l => sy.gd x l) hs (iha _ ha).1
  | notNone a iha =>
    intro t h
    refine kE_el h fun _ h => ?_
    refine kCmp_el h fun l o r p h => ?_
    refine and_el h fun h ha => ?_
    refine and_el h fun ho h0 => ?_
    refine beq_el ho ?_
    refine kConst_el h0 fun _ _ => ?_
    exact s_notNone (iha _ ha).1
  | and a b iha ihb =>
    intro t h
    replace h := kB_inv h
    obtain ⟨v, vs, h, ht⟩ := h
    have key : SoundB c f .And (v :: vs) (ev cf f.sc (.and a b)) := by
      refine and_el h fun h hb => ?_
      refine and_el h fun ha he => ?_
      match vs, he, hb with
      | [w], _, hb => exact sB_and (iha _ ha).1 (iha _ ha).2 (sB_one (ihb _ hb).1 (ihb _ hb).2)
      | w :: w' :: r, _, hb => exact sB_and (iha _ ha).1 (iha _ ha).2 (ihb _ hb)
    rcases ht with ⟨p, rfl⟩ | rfl
    · exact sE_ofB key
    · exact key
  | or a b iha ihb =>
    intro t h
    replace h := kB_inv h
    obtain ⟨v, vs, h, ht⟩ := h
    have key : SoundB c f .Or (v :: vs) (ev cf f.sc (.or a b)) := by
      refine and_el h fun h hb => ?_
      refine and_el h fun ha he => ?_
      match vs, he, hb with
      | [w], _, hb => exact sB_or (iha _ ha).1 (iha _ ha).2 (sB_one (ihb _ hb).1 (ihb _ hb).2)
      | w :: w' :: r, _, hb => exact sB_or (iha _ ha).1 (iha _ ha).2 (ihb _ hb)
    rcases ht with ⟨p, rfl⟩ | rfl
    · exact sE_ofB key
    · exact key
  | not a iha =>
    intro t h
    refine kE_el h fun _ h => ?_
    refine kUn_el h fun o y p h => ?_
    refine and_el h fun ho ha => ?_
    refine beq_el ho ?_
    exact s_notE (iha _ ha).1 (iha _ ha).2
  | ite q a b ihq iha ihb =>
    intro t h
    refine kE_el h fun _ h => ?_
    refine kIf_el h fun u x y p h => ?_
    refine and_el h fun h hb => ?_
    refine and_el h fun hq ha => ?_
    exact ⟨s_ite (ihq _ hq).2 (iha _ ha).1 (ihb _ hb).1, s_iteT (ihq _ hq).2 (iha _ ha).2 (ihb _ hb).2⟩
  | anil =>
    intro t h
    refine kA_el h fun _ h => ?_
    replace h := isEmpty_inv h
    obtain rfl := h
    exact sA_nil
  | acons a b iha ihb =>
    intro t h
    refine kA_el h fun _ h => ?_
    refine kCons_el h fun e r h => ?_
    refine and_el h fun h hb => ?_
    refine and_el h fun ha hp => ?_
    exact sA_cons (iha _ ha).1 hp (ihb _ hb)
  | list as iha =>
    intro t h
    refine kE_el h fun _ h => ?_
    refine kList_el h fun es p h => ?_
    exact E (s_list (iha _ h)) rfl
  | tup as iha =>
    intro t h
    refine kE_el h fun _ h => ?_
    refine kTuple_el h fun es kk p h => ?_
    exact E (s_tup (iha _ h)) rfl
  | dict ks as iha =>
    intro t h
    refine kE_el h fun _ h => ?_
    refine kDict_el h fun keys vals p h => ?_
    refine and_el h fun h h6 => ?_
    refine and_el h fun h h5 => ?_
    refine and_el h fun h h4 => ?_
    refine and_el h fun h h3 => ?_
    refine and_el h fun h1 h2 => ?_
    exact E (s_dict ok h1 (of_decide_eq_true h3) (fun e => by rw [e] at h4; exact nomatch h4) (beq_iff_eq.mp h5) (of_decide_eq_true h6) (iha _ h2)) rfl
  | sub a i iha ihi =>
    intro t h
    refine kE_el h fun _ h => ?_
    refine kSubs_el h fun v s p h => ?_
    refine and_el h fun h hs => ?_
    refine and_el h fun ha hi => ?_
    exact E (s_sub (iha _ ha).1 (ihi _ hi).1 hs) rfl
  | sliceTo a hi iha ihi =>
    intro t h
    refine kE_el h fun _ h => ?_
    refine kSubs_el h fun v s p h => ?_
    refine and_el h fun ha h => ?_
    replace h := kSlice_inv h
    obtain ⟨lo, hi, p, rfl, h1, h2⟩ := h
    replace h1 := kEnd_none h1
    obtain rfl := h1
    replace h2 := kEnd_some h2
    obtain ⟨e, rfl, h2⟩ := h2
    exact E (s_sliceTo (iha _ ha).1 (ihi _ h2).1) rfl
  | sliceFrom a hi iha ihi =>
    intro t h
    refine kE_el h fun _ h => ?_
    refine kSubs_el h fun v s p h => ?_
    refine and_el h fun ha h => ?_
    replace h := kSlice_inv h
    obtain ⟨lo, hi, p, rfl, h1, h2⟩ := h
    replace h2 := kEnd_none h2
    obtain rfl := h2
    replace h1 := kEnd_some h1
    obtain ⟨e, rfl, h1⟩ := h1
    exact E (s_sliceFrom (iha _ ha).1 (ihi _ h1).1) rfl
  | slice2 a lo hi iha ihl ihh =>
    intro t h
    refine kE_el h fun _ h => ?_
    refine kSubs_el h fun v s p h => ?_
    refine and_el h fun ha h => ?_
    replace h := kSlice_inv h
    obtain ⟨lo, hi, p, rfl, h1, h2⟩ := h
    replace h1 := kEnd_some h1
    obtain ⟨e, rfl, h1⟩ := h1
    replace h2 := kEnd_some h2
    obtain ⟨e, rfl, h2⟩ := h2
    exact E (s_slice2 (iha _ ha).1 (ihl _ h1).1 (ihh _ h2).1) rfl
  | attr a x iha =>
    intro t h
    refine kE_el h fun _ h => ?_
    refine kAttr_el h fun v y p h => ?_
    refine and_el h fun h hb => ?_
    refine and_el h fun h ha => ?_
    refine and_el h fun hy hx => ?_
    refine beq_el hy ?_
    exact E (s_attr ok cs (List.contains_iff_mem.mp hx) hb (iha _ ha).1) rfl
  | gget x a d iha ihd =>
    intro t h
    refine kE_el h fun _ h => ?_
    refine kCallM_el h fun ob g apos es pos hp h => ?_
    refine and_el h fun h h6 => ?_
    refine and_el h fun h hg => ?_
    refine and_el h fun h0 hy => ?_
    refine kName_el h0 fun _ _ h0 => ?_
    refine beq_el hy ?_
    refine k2_el h6 fun u v h6 => ?_
    refine and_el h6 fun h6 pv => ?_
    refine and_el h6 fun h6 pu => ?_
    refine and_el h6 fun ha hd => ?_
    refine Ck.glob_el h0 fun h1 h2 => ?_
    obtain ⟨l, hl⟩ := Option.isSome_iff_exists.mp hg
    exact E (s_gget ok (lk h1) h2 hl (sy.gd x l hl) hp (iha _ ha).1 (ihd _ hd).1 pu pv) rfl
  | gitem x a iha =>
    intro t h
    refine kE_el h fun _ h => ?_
    refine kSubs_el h fun v s p h => ?_
    refine and_el h fun h hs => ?_
    refine and_el h fun h ha => ?_
    refine and_el h fun h0 hg => ?_
    refine kName_el h0 fun _ _ h0 => ?_
    refine Ck.glob_el h0 fun h1 h2 => ?_
    obtain ⟨l, hl⟩ := Option.isSome_iff_exists.mp hg
    exact E (s_gitem ok (lk h1) h2 hl (sy.gd x l hl) (iha _ ha).1 hs) rfl
  | call g as iha =>
    intro t h
    refine kE_el h fun _ h => ?_
    refine kCallN_el h fun y q es p h => ?_
    refine and_el h fun h hn => ?_
    refine and_el h fun h ha => ?_
    refine and_el h fun h0 hg => ?_
    refine Ck.glob_el h0 fun h1 h2 => ?_
    obtain ⟨a, hf⟩ := sy.fns g (List.contains_iff_mem.mp hg)
    exact E (s_call ok (lk h1) h2 hf (iha _ ha) co) rfl
  | meth o g as iho iha =>
    intro t h
    refine kE_el h fun _ h => ?_
    refine kCallM_el h fun ob y apos es pos hp h => ?_
    refine and_el h fun h hn => ?_
    refine and_el h fun h ha => ?_
    refine and_el h fun h hb => ?_
    refine and_el h fun h ho => ?_
    refine and_el h fun hy hg => ?_
    refine beq_el hy ?_
    obtain ⟨a, hm⟩ := sy.ms g (List.contains_iff_mem.mp hg)
    exact E (s_meth ok cs hm hb (of_decide_eq_true hn) hp (iho _ ho).1 (iha _ ha) co) rfl
  | new a iha =>
    intro t h
    refine kE_el h fun _ h => ?_
    refine kCallN_el h fun y q es p h => ?_
    refine and_el h fun h0 h => ?_
    refine k1_el h fun u h => ?_
    refine and_el h fun ha hp => ?_
    refine Ck.glob_el h0 fun h1 h2 => ?_
    exact E (s_new ok (lk h1) sy.cls (iha _ ha).1 hp co) rfl
  | append o v iho ihv =>
    intro t h
    refine kE_el h fun _ h => ?_
    refine kCallM_el h fun ob y apos es pos hpos h => ?_
    refine and_el h fun h h4 => ?_
    refine and_el h fun h hb => ?_
    refine and_el h fun hy ho => ?_
    refine beq_el hy ?_
    refine k1_el h4 fun u h4 => ?_
    refine and_el h4 fun hv hp => ?_
    exact E (s_append hb hp hpos (iho _ ho).1 (ihv _ hv).1) rfl
  | pop o iho =>
    intro t h
    refine kE_el h fun _ h => ?_
    refine kCallM_el h fun ob y apos es pos hpos h => ?_
    refine and_el h fun h h4 => ?_
    refine and_el h fun h hb => ?_
    refine and_el h fun hy ho => ?_
    refine beq_el hy ?_
    replace h4 := isEmpty_inv h4
    obtain rfl := h4
    exact E (s_pop hb hpos (iho _ ho).1) rfl
  | len a iha =>
    intro t h
    refine kE_el h fun _ h => ?_
    refine kCallN_el h fun y q es p h => ?_
    refine and_el h fun h0 h => ?_
    refine k1_el h fun u h => ?_
    refine and_el h fun ha hp => ?_
    refine Ck.glob_el h0 fun h1 h2 => ?_
    exact E (s_len ok (lk h1) (sy.bs _ (List.contains_iff_mem.mp rfl)) (iha _ ha).1 hp) rfl
  | listOf a iha =>
    intro t h
    refine kE_el h fun _ h => ?_
    refine kCallN_el h fun y q es p h => ?_
    refine and_el h fun h0 h => ?_
    refine k1_el h fun u h => ?_
    refine and_el h fun ha hp => ?_
    refine Ck.glob_el h0 fun h1 h2 => ?_
    exact E (s_listOf ok (lk h1) (sy.bs _ (List.contains_iff_mem.mp rfl)) (iha _ ha).1 hp) rfl
  | tupleOf a iha =>
    intro t h
    refine kE_el h fun _ h => ?_
    refine kCallN_el h fun y q es p h => ?_
    refine and_el h fun h0 h => ?_
    refine k1_el h fun u h => ?_
    refine and_el h fun ha hp => ?_
    refine Ck.glob_el h0 fun h1 h2 => ?_
    exact E (s_tupleOf ok (lk h1) (sy.bs _ (List.contains_iff_mem.mp rfl)) (iha _ ha).1 hp) rfl
  | cells lim md =>
    intro t h
    replace h := kE_inv h
    obtain ⟨_, rfl, h⟩ := h
    replace h := kLC_inv h
    obtain ⟨e, gs, scope, p, rfl, h⟩ := h
    replace h := and2 h
    obtain ⟨h, _⟩ := h
    replace h := and2 h
    obtain ⟨h, _⟩ := h
    replace h := and2 h
    obtain ⟨h, hkind⟩ := h
    replace h := and2 h
    obtain ⟨h, hn⟩ := h
    replace h := and2 h
    obtain ⟨h, hlim⟩ := h
    replace h := and2 h
    obtain ⟨h, hmd⟩ := h
    replace h := and2 h
    obtain ⟨h1, h2⟩ := h
    replace h1 := kBin_inv h1
    obtain ⟨l, o, r, p, rfl, h1⟩ := h1
    replace h1 := and2 h1
    obtain ⟨h1, h3⟩ := h1
    replace h1 := and2 h1
    obtain ⟨h4, h5⟩ := h1
    replace h4 := beq_iff_eq.mp h4
    obtain rfl := h4
    replace h5 := kConst_inv h5
    obtain ⟨_, _, rfl⟩ := h5
    replace h3 := kCallN_inv h3
    obtain ⟨fa, _, es, _, rfl, h3⟩ := h3
    replace h3 := and2 h3
    obtain ⟨h6, h7⟩ := h3
    replace h6 := beq_iff_eq.mp h6
    obtain rfl := h6
    replace h7 := k1_inv h7
    obtain ⟨u, rfl, h7⟩ := h7
    replace h7 := kName_inv h7
    obtain ⟨_, _, rfl, h7⟩ := h7
    replace h7 := beq_iff_eq.mp h7
    obtain rfl := h7
    replace h2 := k1_inv h2
    obtain ⟨g, rfl, h2⟩ := h2
    replace h2 := and2 h2
    obtain ⟨h2, h8⟩ := h2
    replace h2 := and2 h2
    obtain ⟨h2, h9⟩ := h2
    replace h2 := and2 h2
    obtain ⟨h10, h11⟩ := h2
    obtain ⟨gt, gi, gf, ga⟩ := g
    replace h10 := isEmpty_inv h10
    obtain rfl : gf = [] := h10
    replace h11 := beq_iff_eq.mp h11
    obtain rfl : ga = 0 := h11
    replace h9 := kName_inv h9
    obtain ⟨_, _, h9, h12⟩ := h9
    replace h12 := beq_iff_eq.mp h12
    obtain rfl := h12
    obtain rfl : gt = _ := h9
    replace h8 := kSubs_inv h8
    obtain ⟨v, s, _, h8, h13⟩ := h8
    obtain rfl : gi = _ := h8
    replace h13 := and2 h13
    obtain ⟨h14, h15⟩ := h13
    replace h14 := kName_inv h14
    obtain ⟨_, _, rfl, h14⟩ := h14
    replace h15 := kSlice_inv h15
    obtain ⟨_, _, _, rfl, h16, h17⟩ := h15
    replace h16 := kEnd_none h16
    obtain rfl := h16
    replace h17 := kEnd_some h17
    obtain ⟨_, rfl, h17⟩ := h17
    replace h17 := kConst_inv h17
    obtain ⟨_, _, rfl⟩ := h17
    replace h14 := Ck.loc h14
    obtain ⟨rfl, h1, h2⟩ := h14
    exact E (s_cells ok (lk h1) (of_decide_eq_true hmd) (of_decide_eq_true hlim) (sy.bs _ (List.contains_iff_mem.mp rfl)) (beq_iff_eq.mp hn) (beq_iff_eq.mp hkind)) rfl
end
end Mine
end
section
/-! Soundness, part 11: an exception in flight: noting, landing, leaving. -/
open PySem PySem.W PySem.Calls PyProof.Rows
set_option maxRecDepth 100000
set_option linter.unusedVariables false
namespace Mine

theorem mem_adr {f : Fm} {b : Addr} : b ∈ f.adr ↔ b = f.L ∨ ∃ p ∈ f.sf, p.1.frame = some b := by
  unfold Fm.adr Fm.outer
  simp only [List.filterMap_cons, List.mem_filterMap, List.mem_map]
  show b ∈ f.L :: _ ↔ _
  rw [List.mem_cons, List.mem_filterMap]
  constructor
  · rintro (h | ⟨e, he, hb⟩)
    · exact .inl h
    · obtain ⟨p, hp, rfl⟩ := List.mem_map.mp he
      exact .inr ⟨p, hp, hb⟩
  · rintro (h | ⟨p, hp, hb⟩)
    · exact .inl h
    · exact .inr ⟨p.1, List.mem_map.mpr ⟨p, hp, rfl⟩, hb⟩

section
variable {c : FC} {n : Nat} {f : Fm} {m : Str → Option Value} {nw : Led} {ad : Ads} {ρ : Loc} {σ : Hp} {h h' : Heap}

theorem Inv.adr_at (I : Inv c f m nw ad ρ σ h) {b : Addr} (hb : b ∈ f.adr) : (∃ o es ep, h.get? b = some o ∧ o.data = .dict es ep) ∧ c.base.get? b = none ∧ ∀ q ∈ nw, q.1 ≠ b := by
  rcases mem_adr.mp hb with rfl | ⟨p, hp, e⟩
  · obtain ⟨o, es, ep, ho, hd, _⟩ := I.F.ns
    exact ⟨⟨o, es, ep, ho, hd⟩, get?_none_of_size I.F.above, fun q hq => (I.N q hq).2.1⟩
  · obtain ⟨_, Lp, b', ⟨o, es, ep, ho, hd, _⟩, d, _, g⟩ := I.sf p hp
    rw [e] at b'; cases b'
    exact ⟨⟨o, es, ep, ho, hd⟩, get?_none_of_size d, g⟩

/-- slots of the frames and what stands outside the ledger may change -/
theorem Inv.moved (I : Inv c f m nw ad ρ σ h) (ex : List Addr) (hb : ∀ b ∈ ex, c.base.get? b = none ∧ (∀ q ∈ nw, q.1 ≠ b) ∧ b ∉ f.adr)
    (k : ∀ b o, h.get? b = some o → b ∉ ex → ∃ sl, h'.get? b = some { o with slots := sl } ∧ (b ∉ f.adr → sl = o.slots)) : Inv c f m nw ad ρ σ h' := by
  have same : ∀ b o, h.get? b = some o → b ∉ ex → b ∉ f.adr → h'.get? b = some o := fun b o e n1 n2 => by
    obtain ⟨sl, e', q⟩ := k b o e n1
    rw [e', q n2]
  have ns : ∀ b m', b ∈ f.adr → h.Ns b m' → h'.Ns b m' := fun b m' hm ⟨o, es, ep, ho, hd, r⟩ => by
    obtain ⟨sl, e', _⟩ := k b o ho fun hx => (hb b hx).2.2 hm
    exact ⟨_, es, ep, e', hd, r⟩
  refine ⟨⟨ns _ _ (mem_adr.mpr (.inl rfl)) I.F.ns, fun b o e => ?_, I.F.above⟩, fun p hp => ⟨?_, (I.N p hp).2⟩, I.nd, fun p hp => ?_, I.L, I.H, I.ap, I.sc⟩
  · exact same b o (I.F.keep b o e) (fun hx => by rw [(hb b hx).1] at e; cases e) fun hx => by rw [(I.adr_at hx).2.1] at e; cases e
  · exact same _ _ (I.N p hp).1 (fun hx => (hb _ hx).2.1 p hp rfl) fun hx => (I.adr_at hx).2.2 p hp rfl
  · obtain ⟨a, Lp, b, n', d⟩ := I.sf p hp
    exact ⟨a, Lp, b, ns _ _ (mem_adr.mpr (.inr ⟨p, hp, b⟩)) n', d⟩

theorem Inv.funFrames (ok : FmOk c n f) (I : Inv c f m nw ad ρ σ h) : h.FunFrames c.base (f.env :: f.outer) := by
  have one : ∀ b, b ∈ f.adr → ∃ L o, some b = some L ∧ c.base.get? L = none ∧ h.get? L = some o ∧ ∀ vs, o.data ≠ .fields vs := fun b hb => by
    obtain ⟨⟨o, es, ep, ho, hd⟩, nb, _⟩ := I.adr_at hb
    exact ⟨b, o, rfl, nb, ho, fun vs e => by rw [hd] at e; cases e⟩
  have all : ∀ l : List (Env × (Str → Option Value)), (∀ p ∈ l, p ∈ f.sf) → h.FunFrames c.base (l.map (·.1)) := by
    intro l
    induction l with
    | nil => exact fun _ => trivial
    | cons p r ih =>
      intro hl
      have hp := hl p (.head _)
      obtain ⟨k, Lp, b, _⟩ := I.sf p hp
      refine ⟨k, ?_, ih fun q hq => hl q (.tail _ hq)⟩
      rw [b]
      exact one Lp (mem_adr.mpr (.inr ⟨p, hp, b⟩))
  refine ⟨?_, one f.L (mem_adr.mpr (.inl rfl)), all f.sf fun _ h => h⟩
  show f.scope.kind ≠ .module
  rw [ok.kind]; decide
end

theorem mapFields_dict (g : Array Value → Array Value) (o : Obj) : (o.mapFields g).dict = o.dict := by
  unfold Obj.mapFields
  split <;> rfl

theorem fl_raw_none (L : Addr) : (Value.none == rawInt L) = false := by simp [rawInt]

section
variable {c : FC} {n : Nat} {f : Fm} {m : Str → Option Value} {nw : Led} {ad : Ads} {ρ : Loc} {σ : Hp} {M : Model} {A : Around} {E : Value → Shared → Prop} {s : Shared} {ea de : Addr}

noncomputable abbrev Held (c : FC) (f : Fm) (nw : Led) (ea de : Addr) (h : Heap) : Prop := Flight c f nw ea de h False (· = rawInt f.L)
theorem Flight.weaken {h : Heap} {N N' : Prop} {P P' : Value → Prop} (x : Flight c f nw ea de h N P) (hN : N → N') (hP : ∀ v, P v → P' v) : Flight c f nw ea de h N' P' := by
  obtain ⟨a, b, d, oe, vs, e1, e2, e3, e4, e5, e6⟩ := x
  refine ⟨a, b, d, oe, vs, e1, e2, e3, e4, e5, ?_⟩
  rcases e6 with ⟨q, e⟩ | ⟨T, oT, ts, x, r1, r2, r3, r4, r5, r6, r7, r8, r9⟩
  · exact .inl ⟨hN q, e⟩
  · exact .inr ⟨T, oT, ts, x, r1, r2, r3, r4, r5, r6, r7, r8, hP _ r9⟩

/-- a new head of the chain -/
theorem wp_entry {head : Value} {hadNext : Bool} {oe : Obj} {vs : Array Value} {Q : Unit → Shared → Prop} (ok : FmOk c n f) (hA : A.frames = some (f.env :: f.outer)) (I : Inv c f m nw ad ρ σ s.heap)
    (fresh : c.base.get? ea = none) (off : ∀ q ∈ nw, q.1 ≠ ea) (offF : ea ∉ f.adr) (he : s.heap.get? ea = some oe) (hc : oe.cls = .ref c.TF) (hdi : oe.dict = some de) (hd : oe.data = .fields vs) (hsz : 1 < vs.size)
    (h : ∀ h', Inv c f m nw ad ρ σ h' → Held c f nw ea de h' → Q () { s with heap := h' }) :
    wpAny M A (do let a ← frameOf f.env; let pl ← entryPlaceOf f.L hadNext; let b ← EntryCells.newEntry head a .none (rawInt f.L) .none pl; setField (.ref ea) 1 b) Q E s := by
  refine wpAny_bind (wpAny_frameOf_fun hA (I.funFrames ok) (L := f.L) rfl fun h₁ hs₁ => ?_)
  refine wpAny_bind (wpAny_entryPlaceOf fun pl hpl => ?_)
  unfold EntryCells.newEntry newFields
  refine wpAny_bind (wpAny_newObj_type ?_ (hpl.sizeOk5 _ _ _ _ _))
  have he₁ : h₁.get? ea = some oe := (hs₁.2.1 ea offF).trans he
  have he₂ := Heap.get?_push_of_some (h := h₁) { cls := .type "traceback", dict := none, data := .fields ([head, .ref f.L, .none, rawInt f.L, .none] ++ (if pl.isEmpty then List.replicate 6 Value.none else pl)).toArray } he₁
  refine wpAny_setField he₂ hd hsz (h _ ?_ ?_)
  · refine I.moved [ea] (fun b hb => by rw [List.mem_singleton] at hb; subst hb; exact ⟨fresh, off, offF⟩) fun b o hb hn => ?_
    obtain ⟨sl, e⟩ := hs₁.2.2 b o hb
    have hne : ea ≠ b := fun q => hn (by rw [q]; exact .head _)
    refine ⟨sl, ?_, fun hx => ?_⟩
    · rw [Heap.get?_update_other _ _ hne]
      exact Heap.get?_push_of_some _ e
    · have e' := hs₁.2.1 b hx
      rw [e, hb] at e'
      exact congrArg Obj.slots (Option.some.inj e')
  · have hTe : h₁.objs.size ≠ ea := Nat.ne_of_gt (Heap.lt_size he₁)
    have hd₃ := Obj.data_mapFields hd (·.setIfInBounds 1 (Value.ref h₁.objs.size))
    have he₃ := Heap.get?_update_self (Obj.mapFields (·.setIfInBounds 1 (Value.ref h₁.objs.size))) he₂ (Obj.isFreed_of_fields hd₃)
    have hT₃ := (Heap.get?_update_other (h₁.push { cls := .type "traceback", dict := none, data := .fields ([head, .ref f.L, .none, rawInt f.L, .none] ++ (if pl.isEmpty then List.replicate 6 Value.none else pl)).toArray })
      (Obj.mapFields (·.setIfInBounds 1 (Value.ref h₁.objs.size))) (Ne.symm hTe)).trans (Heap.get?_push_size h₁ rfl)
    refine ⟨fresh, off, offF, _, _, he₃, (Obj.cls_mapFields _ _).trans hc, (mapFields_dict _ _).trans hdi, hd₃, by simpa using hsz, .inr ⟨h₁.objs.size, _, _, _, by simp [hsz], ?_, fun q hq e => ?_, hTe, fun hm => ?_, hT₃, rfl, by simp, rfl⟩⟩
    · cases q : c.base.get? h₁.objs.size with
      | none => rfl
      | some ob =>
        have := Heap.lt_size (I.F.keep _ _ q)
        rw [hs₁.1] at this
        exact absurd this (Nat.lt_irrefl _)
    · have := led_lt I.N q hq
      rw [e, hs₁.1] at this
      exact Nat.lt_irrefl _ this
    · obtain ⟨⟨o, _, _, ho, _⟩, _⟩ := I.adr_at hm
      have := Heap.lt_size ho
      rw [hs₁.1] at this
      exact Nat.lt_irrefl _ this

theorem wp_note {P : Value → Prop} {N : Prop} {Q : Unit → Shared → Prop} (ok : FmOk c n f) (hA : A.frames = some (f.env :: f.outer)) (I : Inv c f m nw ad ρ σ s.heap) (Fl : Flight c f nw ea de s.heap True (AnyFl f.L))
    (h : ∀ h', Inv c f m nw ad ρ σ h' → Held c f nw ea de h' → Q () { s with heap := h' }) : wpAny M A (noteFrame (.ref ea) f.env) Q E s := by
  obtain ⟨fresh, off, offF, oe, vs, he, hc, hdi, hd, hsz, hT⟩ := Fl
  unfold noteFrame
  show wpAny M A (do
    let head ← field (.ref ea) 1
    if head != .none then
      if (← field head 3) == rawInt f.L then return
      setField head 3 .none
    setField (.ref ea) 1 (← EntryCells.newEntry head (← frameOf f.env) .none (rawInt f.L) .none (← entryPlaceOf f.L (head != .none)))) Q E s
  rcases hT with ⟨_, h1⟩ | ⟨T, oT, ts, x, r1, r2, r3, r4, r5, r6, r7, r8, r9⟩
  · refine wpAny_bind (wpAny_field he hd h1 ?_)
    rw [if_neg (by decide)]
    exact wp_entry ok hA I fresh off offF he hc hdi hd hsz h
  · refine wpAny_bind (wpAny_field he hd r1 ?_)
    rw [if_pos (show (Value.ref T != Value.none) = true from by simp)]
    refine wpAny_bind (wpAny_field r6 r7 r8 ?_)
    rcases r9 with rfl | rfl
    · rw [if_neg (by rw [fl_raw_none]; decide)]
      refine wpAny_bind (wpAny_setField r6 r7 (Array.getElem?_eq_some_iff.mp r8).1 ?_)
      have other : ∀ b, b ≠ T → (s.heap.update T (Obj.mapFields (·.setIfInBounds 3 Value.none))).get? b = s.heap.get? b := fun b hb => Heap.get?_update_other _ _ (Ne.symm hb)
      refine wp_entry ok hA (I.moved [T] (fun b hb => by rw [List.mem_singleton] at hb; subst hb; exact ⟨r2, r3, r5⟩) fun b o hb hn => ⟨o.slots, ?_, fun _ => rfl⟩) fresh off offF ((other ea (Ne.symm r4)).trans he) hc hdi hd hsz h
      exact (other b fun q => hn (by rw [q]; exact .head _)).trans hb
    · rw [if_pos (by simp)]
      exact wpAny_pure (h s.heap I ⟨fresh, off, offF, oe, vs, he, hc, hdi, hd, hsz, .inr ⟨T, oT, ts, _, r1, r2, r3, r4, r5, r6, r7, r8, rfl⟩⟩)

/-- the mark of flight is set -/
theorem wp_setFl {P : Value → Prop} {Q : Unit → Shared → Prop} {g : Option Addr} (I : Inv c f m nw ad ρ σ s.heap) (Fl : Flight c f nw ea de s.heap False P)
    (h : ∀ h', Inv c f m nw ad ρ σ h' → Flight c f nw ea de h' False (· = g.elim .none fun L => rawInt L) → Q () { s with heap := h' }) : wpAny M A (setFlight (.ref ea) g) Q E s := by
  obtain ⟨fresh, off, offF, oe, vs, he, hc, hdi, hd, hsz, hT⟩ := Fl
  rcases hT with ⟨hf, _⟩ | ⟨T, oT, ts, x, r1, r2, r3, r4, r5, r6, r7, r8, r9⟩
  · exact hf.elim
  · unfold setFlight
    refine wpAny_bind (wpAny_field he hd r1 ?_)
    rw [if_pos (show (Value.ref T != Value.none) = true from by simp)]
    have h3 := (Array.getElem?_eq_some_iff.mp r8).1
    have other : ∀ b, b ≠ T → (s.heap.update T (Obj.mapFields (·.setIfInBounds 3 (g.elim Value.none fun f => rawInt f)))).get? b = s.heap.get? b := fun b hb => Heap.get?_update_other _ _ (Ne.symm hb)
    refine wpAny_setField r6 r7 h3 (h _ (I.moved [T] (fun b hb => by rw [List.mem_singleton] at hb; subst hb; exact ⟨r2, r3, r5⟩) fun b o hb hn => ⟨o.slots, ?_, fun _ => rfl⟩) ?_)
    · exact (other b fun q => hn (by rw [q]; exact .head _)).trans hb
    · exact ⟨fresh, off, offF, oe, vs, (other ea (Ne.symm r4)).trans he, hc, hdi, hd, hsz, .inr ⟨T, _, _, _, r1, r2, r3, r4, r5, Heap.get?_update_self _ r6 (Obj.isFreed_of_fields (Obj.data_mapFields r7 _)), Obj.data_mapFields r7 _, by simp [h3], rfl⟩⟩

/-- through a block of the frame's own: noted, come back -/
theorem wp_passes {A' : Around} {t : String} {i : Int} {σ' : Hp} {s₀ : Shared} {ad₀ : Ads} {nw₀ : Led} (ok : FmOk c n f) (hA' : A'.frames = some (f.env :: f.outer)) : ∀ e s', Thrown c f ad₀ nw₀ t i σ' s₀ e s' →
    notedBy M A' f.env (cameBackBy M A f.env (Thrown c f ad₀ nw₀ t i σ' s₀)) e s' := by
  rintro e s' ⟨ea, de, h', tk, m', nw', ad', ρ', n', k1, k2, t1, t2, rfl, rfl, I, X, hd, Fl⟩
  refine wp_note (P := fun _ => True) (N := True) ok hA' I Fl fun h₂ I₂ H₂ => ?_
  unfold cameBackBy
  have H₂' := H₂
  obtain ⟨fresh, off, offF, oe, vs, he, hc, hdi, hdd, hsz, hT⟩ := H₂'
  rcases hT with ⟨hf, _⟩ | ⟨T, oT, ts, x, r1, r⟩
  · exact hf.elim
  · refine wpAny_bind (wpAny_field he hdd r1 ?_)
    rw [if_neg (show ¬ ((Value.ref T == Value.none) = true) from Bool.false_ne_true)]
    refine wp_setFl (g := f.env.frame) I₂ H₂ fun h₃ I₃ H₃ => ?_
    exact ⟨ea, de, h₃, tk, m', nw', ad', ρ', n', k1, k2, t1, t2, rfl, rfl, I₃, X, hd, H₃.weaken False.elim fun v e => .inr e⟩

end
end Mine
end
section
/-! Soundness, part 12: statements. -/
open PySem PySem.W PySem.Calls PyProof.Rows
set_option maxRecDepth 100000
set_option linter.unusedVariables false
namespace Mine

noncomputable def FR (ad : Ads) (nw : Led) : Fl → Flow → Prop
  | .next, u => u = .next
  | .brk, u => u = .brk
  | .ret v, u => ∃ x, u = .ret x ∧ VR ad nw v x

noncomputable def SoundX (c : FC) (f : Fm) (st : List Stmt) (g : SR) : Prop :=
  ∀ {s : Shared} {m : Str → Option Value} {nw : Led} {ad : Ads} {ρ : Loc} {σ : Hp} {Q : Flow → Shared → Prop} {E : Value → Shared → Prop},
    Inv c f m nw ad ρ σ s.heap → PostS FR c f ad nw s Q E (g ρ σ) → wpAny (model c.prog c.w) f.A (execs st f.env) Q E s

theorem FmOk.framesA {c : FC} {n : Nat} {f : Fm} (ok : FmOk c n f) : f.A.frames = some (f.env :: f.outer) := by
  show Option.map _ f.A₀.frames = _
  rw [ok.stack]; rfl

section
variable {α β : Type} {R : Ads → Led → α → β → Prop} {c : FC} {n : Nat} {f : Fm} {m : Str → Option Value} {ad : Ads} {nw : Led} {ρ : Loc} {s : Shared} {E : Value → Shared → Prop}

theorem passesE {t : String} {i : Int} {σ : Hp} (ok : FmOk c n f) (H : ∀ e s', Thrown c f ad nw t i σ s e s' → E e s') :
    ∀ e s', Thrown c f ad nw t i σ s e s' → notedBy (model c.prog c.w) f.A f.env (cameBackBy (model c.prog c.w) f.A f.env E) e s' := fun e s' T =>
  wpAny_mono (wp_passes (A := f.A) (M := model c.prog c.w) ok (A' := f.A) ok.framesA e s' T)
    (fun _ _ x => wpAny_mono x (fun _ _ y => H _ _ y) fun _ _ y => H _ _ y) fun _ _ x => wpAny_mono x (fun _ _ y => H _ _ y) fun _ _ y => H _ _ y

theorem PostS.passes {Q : β → Shared → Prop} {r : Res (α × Loc)} (ok : FmOk c n f) (H : PostS R c f ad nw s Q E r) :
    PostS R c f ad nw s Q (notedBy (model c.prog c.w) f.A f.env (cameBackBy (model c.prog c.w) f.A f.env E)) r := by
  cases r with
  | stuck => exact H
  | ok v σ => exact H
  | err t i σ => exact passesE ok H
end

section
variable {c : FC} {n : Nat} {f : Fm} {k : Ck}

/-- what is done behind a statement -/
noncomputable abbrev Behind (c : FC) (f : Fm) (rest : List Stmt) (Q : Flow → Shared → Prop) (E : Value → Shared → Prop) : Flow → Shared → Prop :=
  fun fl s' => match fl with | .next => wpAny (model c.prog c.w) f.A (execs rest f.env) Q E s' | fl => Q fl s'

theorem thenK_go {s : Shared} {nw : Led} {ad : Ads} {r : Res (Fl × Loc)} {g : SR} {rest : List Stmt} {Q : Flow → Shared → Prop} {E : Value → Shared → Prop} (hk : SoundX c f rest g)
    (H : PostS FR c f ad nw s Q E (thenK r g)) : PostS FR c f ad nw s (Behind c f rest Q E) E r := by
  unfold thenK at H
  cases r with
  | stuck => exact H
  | err t i σ => exact H
  | ok p σ =>
    obtain ⟨fl, ρ⟩ := p
    intro h' tk' m' nw' ad' u I X r
    cases fl with
    | next =>
      cases r
      exact hk (s := { s with heap := h', toks := tk' }) I (PostS.shift X H)
    | brk =>
      cases r
      exact H h' tk' m' nw' ad' _ I X rfl
    | ret v =>
      obtain ⟨x, rfl, r⟩ := r
      exact H h' tk' m' nw' ad' _ I X ⟨x, rfl, r⟩

theorem noComp_swaps {v : PySem.Expr} {t : Option PySem.Expr} {line : Nat} {env : Env} (h : noComp v = true) : swapsWith v t line env = pure false := by
  cases v <;> first | rfl | exact nomatch h

theorem x_nil : SoundX c f [] fun ρ σ => .ok (.next, ρ) σ := fun {s m nw ad ρ σ Q E} I H => wpAny_execs_nil (H s.heap s.toks m nw ad .next I (Ext.refl _ _) rfl)

theorem x_expr {e : PySem.Expr} {pos} {rest : List Stmt} {g : Loc → Hp → Res PV} {gk : SR} (ok : FmOk c n f) (he : SoundE c f e g) (hc : noComp e = true) (hk : SoundX c f rest gk) :
    SoundX c f (.Expr e pos :: rest) fun ρ σ => (g ρ σ).bind fun _ σ => gk ρ σ := fun {s m nw ad ρ σ Q E} I H => by
  refine wpAny_execs_cons (wpAny_Expr_any (he I (PostS.bind (R' := VR) H fun v σ₁ h₁ tk₁ nw₁ ad₁ u I₁ X₁ r₁ H₁ => ?_)) (by show (f.scope.kind == .module && _) = false; rw [ok.kind]; rfl) (noComp_swaps hc))
  exact hk (s := { s with heap := h₁, toks := tk₁ }) I₁ H₁

theorem store_go {x : String} {v : PV} {u : Value} {s : Shared} {m : Str → Option Value} {nw : Led} {ad : Ads} {ρ : Loc} {σ : Hp} {Q : Unit → Shared → Prop} {E : Value → Shared → Prop} (ok : FmOk c n f) (hl : f.scope.names.lookup (S x) = some .local) (hx : x ≠ "script")
    (I : Inv c f m nw ad ρ σ s.heap) (r : VR ad nw v u) (h : ∀ h' tk m', Inv c f m' nw ad (ρ.set x v) σ h' → Q () { s with heap := h', toks := tk }) : wpAny (model c.prog c.w) f.A (storeName f.env (S x) u) Q E s :=
  wpAny_storeName_local hl I.F.ns (fun h' hn hs => h h' _ _ (I.store hn hs r hx)) (by show (f.scope.kind == .class || (f.scope.kind == .module && _)) = false; rw [ok.kind]; rfl)

theorem x_asg {x : String} {e : PySem.Expr} {pos pos'} {rest : List Stmt} {g : Loc → Hp → Res PV} {gk : SR} (ok : FmOk c n f) (hl : f.scope.names.lookup (S x) = some .local) (hx : x ≠ "script") (hc : noComp e = true) (he : SoundE c f e g) (hk : SoundX c f rest gk) :
    SoundX c f (.Assign [.Name (S x) pos'] e pos :: rest) fun ρ σ => (g ρ σ).bind fun v σ => gk (ρ.set x v) σ := fun {s m nw ad ρ σ Q E} I H => by
  refine wpAny_execs_cons (wpAny_Assign_Name (he I (PostS.bind (R' := VR) H fun v σ₁ h₁ tk₁ nw₁ ad₁ u I₁ X₁ r₁ H₁ => ?_)) (noComp_swaps hc))
  refine store_go (s := { s with heap := h₁, toks := tk₁ }) ok hl hx I₁ r₁ fun h' tk m' I' => ?_
  exact hk (s := { s with heap := h', toks := tk }) I' (PostS.shift (Ext.refl _ _) H₁)

theorem x_asgAttr {o e : PySem.Expr} {x : String} {pos pos'} {rest : List Stmt} {go ge : Loc → Hp → Res PV} {gk : SR} (ok : FmOk c n f) (cs : CsOk c) (hx : x ∈ attrNames) (hc : noComp e = true) (ho : SoundE c f o go) (he : SoundE c f e ge) (hk : SoundX c f rest gk) :
    SoundX c f (.Assign [.Attribute o (S x) pos'] e pos :: rest) fun ρ σ => (ge ρ σ).bind fun v σ => (go ρ σ).bind fun ov σ => (setAttrV ov x v σ).bind fun _ σ => gk ρ σ := fun {s m nw ad ρ σ Q E} I H => by
  refine wpAny_execs_cons (plainObj_wpAny_Assign_Attribute (he I (PostS.bind (R' := VR) H fun v σ₁ h₁ tk₁ nw₁ ad₁ u I₁ X₁ r₁ H₁ => ?_)) (noComp_swaps hc))
  refine ho (s := { s with heap := h₁, toks := tk₁ }) I₁ (PostS.bind (R' := VR) H₁ fun v' σ₂ h₂ tk₂ nw₂ ad₂ u' I₂ X₂ r₂ H₂ => ?_)
  refine opU_setAttr (s := { s with heap := h₂, toks := tk₂ }) ok cs hx I₂ r₂ (r₁.ext X₂) (PostS.bind (R' := fun _ _ _ _ => True) H₂ fun v'' σ₃ h₃ tk₃ nw₃ ad₃ u'' I₃ X₃ _ H₃ => ?_)
  exact hk (s := { s with heap := h₃, toks := tk₃ }) I₃ H₃

theorem x_asgItem {o e : PySem.Expr} {x : String} {kk kp pos pos'} {rest : List Stmt} {go ge : Loc → Hp → Res PV} {gk : SR} (ok : FmOk c n f) (hc : noComp e = true) (ho : SoundE c f o go) (he : SoundE c f e ge) (hk : SoundX c f rest gk) :
    SoundX c f (.Assign [.Subscript o (.Constant (.str (S x)) kk kp) pos'] e pos :: rest) fun ρ σ => (ge ρ σ).bind fun v σ => (go ρ σ).bind fun ov σ => (setItemV ov x v σ).bind fun _ σ => gk ρ σ := fun {s m nw ad ρ σ Q E} I H => by
  refine wpAny_execs_cons (wpAny_Assign_Subscript (he I (PostS.bind (R' := VR) H fun v σ₁ h₁ tk₁ nw₁ ad₁ u I₁ X₁ r₁ H₁ => ?_)) (noComp_swaps hc))
  refine ho (s := { s with heap := h₁, toks := tk₁ }) I₁ (PostS.bind (R' := VR) H₁ fun v' σ₂ h₂ tk₂ nw₂ ad₂ u' I₂ X₂ r₂ H₂ => wpAny_Constant_str ?_)
  refine opU_setItem (s := { s with heap := h₂, toks := tk₂ + 1 }) I₂ r₂ (r₁.ext X₂) (PostS.bind (R' := fun _ _ _ _ => True) (PostS.shift (h := h₂) (tk := tk₂ + 1) (Ext.refl _ _) H₂) fun v'' σ₃ h₃ tk₃ nw₃ ad₃ u'' I₃ X₃ _ H₃ => ?_)
  exact hk (s := { s with heap := h₃, toks := tk₃ }) I₃ H₃

theorem op_aug {s : Shared} {m : Str → Option Value} {nw : Led} {ad : Ads} {ρ : Loc} {σ : Hp} {Q : Value → Shared → Prop} {E : Value → Shared → Prop} {a b : PV} {u v : Value} {A : Around} {op : AOp} (I : Inv c f m nw ad ρ σ s.heap) (ra : VR ad nw a u) (rb : VR ad nw b v)
    (H : Post VR c f m ad nw ρ s Q E (augV op a b σ)) : wpAny (model c.prog c.w) A (inplaceOp (opE op) u v) Q E s := by
  cases op with
  | add => obtain ⟨x, y, t, t', rfl, rfl, H⟩ := Post.two ra rb H; exact PySem.P.iadd_int (H.okInt I)
  | sub => obtain ⟨x, y, t, t', rfl, rfl, H⟩ := Post.two ra rb H; exact PySem.P.isub_int (H.okInt I)
  | _ => exact H.elim

theorem x_augLoc {x : String} {op : AOp} {e : PySem.Expr} {pos pos'} {rest : List Stmt} {g : Loc → Hp → Res PV} {gk : SR} (ok : FmOk c n f) (hl : f.scope.names.lookup (S x) = some .local) (hx : x ≠ "script") (he : SoundE c f e g) (hk : SoundX c f rest gk) :
    SoundX c f (.AugAssign (.Name (S x) pos') (opE op) e pos :: rest) fun ρ σ => match ρ x with
      | some a => (g ρ σ).bind fun b σ => (augV op a b σ).bind fun v σ => gk (ρ.set x v) σ
      | Option.none => .stuck := fun {s m nw ad ρ σ Q E} I H => by
  dsimp only at H
  cases hv : ρ x with
  | none => rw [hv] at H; exact H.elim
  | some a =>
    rw [hv] at H
    obtain ⟨u, hu, r⟩ := I.L x a hv
    refine wpAny_execs_cons (wpAny_AugAssign_Name (ldn I.F hu (he I (PostS.bind (R' := VR) H fun v σ₁ h₁ tk₁ nw₁ ad₁ u I₁ X₁ r₁ H₁ => ?_)) ok.kind hl))
    refine op_aug (s := { s with heap := h₁, toks := tk₁ }) I₁ (r.ext X₁) r₁ (PostS.bind (R' := VR) H₁ fun v' σ₂ h₂ tk₂ nw₂ ad₂ u' I₂ X₂ r₂ H₂ => ?_)
    refine store_go (s := { s with heap := h₂, toks := tk₂ }) ok hl hx I₂ r₂ fun h' tk m' I' => ?_
    exact hk (s := { s with heap := h', toks := tk }) I' (PostS.shift (Ext.refl _ _) H₂)

theorem x_augAttr {x : String} {op : AOp} {o e : PySem.Expr} {pos pos'} {rest : List Stmt} {go ge : Loc → Hp → Res PV} {gk : SR} (ok : FmOk c n f) (cs : CsOk c) (hx : x ∈ attrNames) (ho : SoundE c f o go) (he : SoundE c f e ge) (hk : SoundX c f rest gk) :
    SoundX c f (.AugAssign (.Attribute o (S x) pos') (opE op) e pos :: rest) fun ρ σ => (go ρ σ).bind fun ov σ => (attrV ov x σ).bind fun a σ => (ge ρ σ).bind fun b σ => (augV op a b σ).bind fun v σ => (setAttrV ov x v σ).bind fun _ σ => gk ρ σ := fun {s m nw ad ρ σ Q E} I H => by
  refine wpAny_execs_cons (wpAny_AugAssign_AttributeAny (ho I (PostS.bind (R' := VR) H fun v σ₁ h₁ tk₁ nw₁ ad₁ u I₁ X₁ r₁ H₁ => ?_)))
  refine op_attr (s := { s with heap := h₁, toks := tk₁ }) ok cs hx I₁ r₁ (PostS.bind (R' := VR) H₁ fun v' σ₂ h₂ tk₂ nw₂ ad₂ u' I₂ X₂ r₂ H₂ => ?_)
  refine he (s := { s with heap := h₂, toks := tk₂ }) I₂ (PostS.bind (R' := VR) H₂ fun v'' σ₃ h₃ tk₃ nw₃ ad₃ u'' I₃ X₃ r₃ H₃ => ?_)
  refine op_aug (s := { s with heap := h₃, toks := tk₃ }) I₃ (r₂.ext X₃) r₃ (PostS.bind (R' := VR) H₃ fun v3 σ₄ h₄ tk₄ nw₄ ad₄ u3 I₄ X₄ r₄ H₄ => ?_)
  refine opU_setAttr (s := { s with heap := h₄, toks := tk₄ }) ok cs hx I₄ (r₁.ext (X₂.trans (X₃.trans X₄))) r₄ (PostS.bind (R' := fun _ _ _ _ => True) H₄ fun v4 σ₅ h₅ tk₅ nw₅ ad₅ u4 I₅ X₅ _ H₅ => ?_)
  exact hk (s := { s with heap := h₅, toks := tk₅ }) I₅ H₅

theorem x_if {t : PySem.Expr} {x y rest : List Stmt} {pos} {gt : Loc → Hp → Res Bool} {ga gb gk : SR} (ht : SoundT c f t gt) (ha : SoundX c f x ga) (hb : SoundX c f y gb) (hk : SoundX c f rest gk) :
    SoundX c f (.If t x y pos :: rest) fun ρ σ => (gt ρ σ).bind fun b σ => thenK (if b then ga ρ σ else gb ρ σ) gk := fun {s m nw ad ρ σ Q E} I H => by
  refine wpAny_execs_cons (wpAny_If (ht I (PostS.bind (R' := BR) H fun v σ₁ h₁ tk₁ nw₁ ad₁ u I₁ X₁ r₁ H₁ => ?_)))
  cases r₁
  cases v with
  | true => exact ha (s := { s with heap := h₁, toks := tk₁ }) I₁ (thenK_go hk H₁)
  | false => exact hb (s := { s with heap := h₁, toks := tk₁ }) I₁ (thenK_go hk H₁)

theorem x_ret {e : PySem.Expr} {pos} {rest : List Stmt} {g : Loc → Hp → Res PV} (he : SoundE c f e g) : SoundX c f (.Return (some e) pos :: rest) fun ρ σ => (g ρ σ).bind fun v σ => .ok (.ret v, ρ) σ := fun {s m nw ad ρ σ Q E} I H => by
  refine wpAny_execs_cons (wpAny_Return_some (he I (PostS.bind (R' := VR) H fun v σ₁ h₁ tk₁ nw₁ ad₁ u I₁ X₁ r₁ H₁ => ?_)))
  exact H₁ h₁ tk₁ _ _ _ (.ret u) I₁ (Ext.refl _ _) ⟨u, rfl, r₁⟩
theorem x_retNone {pos} {rest : List Stmt} : SoundX c f (.Return none pos :: rest) fun ρ σ => .ok (.ret .none, ρ) σ := fun {s m nw ad ρ σ Q E} I H =>
  wpAny_execs_cons (wpAny_Return_none (H s.heap s.toks _ _ _ (.ret .none) I (Ext.refl _ _) ⟨_, rfl, .none⟩))
theorem x_brk {pos} {rest : List Stmt} : SoundX c f (.Break pos :: rest) fun ρ σ => .ok (.brk, ρ) σ := fun {s m nw ad ρ σ Q E} I H =>
  wpAny_execs_cons (wpAny_Break (H s.heap s.toks _ _ _ .brk I (Ext.refl _ _) rfl))

theorem x_while {t : PySem.Expr} {body rest : List Stmt} {pos} {gt : Loc → Hp → Res Bool} {gb gk : SR} {w : Nat} (ok : FmOk c n f) (ht : SoundT c f t gt) (hb : SoundX c f body gb) (hk : SoundX c f rest gk) :
    SoundX c f (.While t body [] pos :: rest) fun ρ σ => thenK (loopW gt gb w ρ σ) gk := fun {s m nw ad ρ σ Q E} I H => by
  refine wpAny_execs_cons (wpAny_While ?_)
  have H' := PostS.passes ok (thenK_go hk H)
  refine codeAny_whileLoop (fun n s' => ∃ h' tk m' nw' ad' ρ' σ', s' = { s with heap := h', toks := tk } ∧ Inv c f m' nw' ad' ρ' σ' h' ∧
    PostS FR c f ad' nw' { s with heap := h', toks := tk } (Behind c f rest Q E) (notedBy (model c.prog c.w) f.A f.env (cameBackBy (model c.prog c.w) f.A f.env E)) (loopW gt gb n ρ' σ')) ?_ w ⟨s.heap, s.toks, m, nw, ad, ρ, σ, rfl, I, PostS.shift (Ext.refl _ _) H'⟩
  rintro n s' ⟨h', tk, m', nw', ad', ρ', σ', rfl, I', H₁⟩
  cases n with
  | zero => exact H₁.elim
  | succ n =>
    unfold loopW at H₁
    refine ht (s := { s with heap := h', toks := tk }) I' (PostS.bind (R' := BR) H₁ fun v σ₁ h₁ tk₁ nw₁ ad₁ u I₁ X₁ r₁ H₁' => ?_)
    cases r₁
    cases v with
    | true =>
      simp only [if_true] at H₁' ⊢
      refine hb (s := { s with heap := h₁, toks := tk₁ }) I₁ (PostS.bindS (R' := FR) H₁' fun p σ₂ h₂ tk₂ m₂ nw₂ ad₂ u I₂ X₂ r₂ H₂ => ?_)
      obtain ⟨fl, ρ₂⟩ := p
      cases fl with
      | next =>
        cases r₂
        exact ⟨n, Nat.lt_succ_self n, h₂, tk₂, m₂, nw₂, ad₂, ρ₂, σ₂, rfl, I₂, H₂⟩
      | brk =>
        cases r₂
        exact H₂ h₂ tk₂ m₂ nw₂ ad₂ .next I₂ (Ext.refl _ _) rfl
      | ret v =>
        obtain ⟨x, rfl, r₂⟩ := r₂
        exact H₂ h₂ tk₂ m₂ nw₂ ad₂ (.ret x) I₂ (Ext.refl _ _) ⟨x, rfl, r₂⟩
    | false =>
      simp only [Bool.false_eq_true, if_false] at H₁' ⊢
      exact wpAny_execs_nil (H₁' h₁ tk₁ _ nw₁ ad₁ .next I₁ (Ext.refl _ _) rfl)
end
end Mine
end
section
/-! Soundness, part 13: stores of a tuple, loops over ranges and lists. -/
open PySem PySem.W PySem.Calls PyProof.Rows
set_option maxRecDepth 100000
set_option linter.unusedVariables false
namespace Mine

theorem setAll_not {y : String} : ∀ {xs : List String} {l : List PV} {ρ : Loc}, y ∉ xs → (ρ.setAll xs l) y = ρ y
  | [], _, _, _ => rfl
  | x :: xs, [], ρ, h => rfl
  | x :: xs, v :: l, ρ, h => by
    rw [List.mem_cons, not_or] at h
    show ((ρ.set x v).setAll xs l) y = ρ y
    rw [setAll_not h.2]
    show (if y = x then some v else ρ y) = ρ y
    rw [if_neg h.1]
theorem setAll_mem {y : String} {v : PV} : ∀ {xs : List String} {l : List PV} {ρ : Loc}, xs.Nodup → (y, v) ∈ xs.zip l → (ρ.setAll xs l) y = some v
  | [], _, _, _, h => by cases h
  | x :: xs, [], ρ, _, h => by cases h
  | x :: xs, u :: l, ρ, hn, h => by
    rw [List.nodup_cons] at hn
    show ((ρ.set x u).setAll xs l) y = some v
    rw [List.zip_cons_cons, List.mem_cons] at h
    rcases h with h | h
    · cases h
      rw [setAll_not hn.1]
      show (if y = y then some v else ρ y) = some v
      rw [if_pos rfl]
    · exact setAll_mem hn.2 h
theorem setAll_rev {xs : List String} {l : List PV} {ρ : Loc} (hn : xs.Nodup) (hl : xs.length = l.length) : ρ.setAll xs.reverse l.reverse = ρ.setAll xs l := by
  funext y
  by_cases h : y ∈ xs
  · obtain ⟨i, hi, rfl⟩ := List.getElem_of_mem h
    have hm : (xs[i], l[i]'(hl ▸ hi)) ∈ xs.zip l := by
      have hz : i < (xs.zip l).length := by rw [List.length_zip, ← hl]; omega
      have : (xs.zip l)[i] = (xs[i], l[i]'(hl ▸ hi)) := List.getElem_zip
      exact this ▸ List.getElem_mem hz
    rw [setAll_mem hn hm]
    refine setAll_mem (List.pairwise_reverse.mpr (hn.imp Ne.symm)) ?_
    have e : xs.reverse.zip l.reverse = (xs.zip l).reverse := (List.reverse_zipWith hl).symm
    rw [e]
    exact List.mem_reverse.mpr hm
  · rw [setAll_not h, setAll_not (fun h' => h (List.mem_reverse.mp h'))]

theorem VRs.snoc {ad : Ads} {nw : Led} {l : List PV} {vs : List Value} {v : PV} {u : Value} (h : VRs ad nw l vs) (r : VR ad nw v u) : VRs ad nw (l ++ [v]) (vs ++ [u]) := h.append (.cons r .nil)
theorem VRs.reverse {ad : Ads} {nw : Led} : ∀ {l : List PV} {vs : List Value}, VRs ad nw l vs → VRs ad nw l.reverse vs.reverse
  | _, _, .nil => .nil
  | _, _, .cons a b => by
    rw [List.reverse_cons, List.reverse_cons]
    exact (VRs.reverse b).snoc a

inductive StR (c : FC) (f : Fm) : List (Value → Sem Unit) → List String → Prop
  | nil : StR c f [] []
  | cons {t : Value → Sem Unit} {ts : List (Value → Sem Unit)} {x : String} {xs : List String} :
      (∀ (v : Value) (s : Shared) (Q : Unit → Shared → Prop) (E : Value → Shared → Prop), wpAny (model c.prog c.w) f.A (bindName f.env (S x) v) Q E s → wpAny (model c.prog c.w) f.A (t v) Q E s) → StR c f ts xs → StR c f (t :: ts) (x :: xs)

section
variable {c : FC} {n : Nat} {f : Fm} {k : Ck}

theorem stores_go (ok : FmOk c n f) {ts : List (Value → Sem Unit)} {xs : List String} (st : StR c f ts xs) : ∀ {l : List PV} {us : List Value} {s : Shared} {m : Str → Option Value} {nw : Led} {ad : Ads} {ρ : Loc} {σ : Hp} {Q : Unit → Shared → Prop} {E : Value → Shared → Prop},
    (∀ x ∈ xs, f.scope.names.lookup (S x) = some .local ∧ x ≠ "script") → l.length = xs.length → Inv c f m nw ad ρ σ s.heap → VRs ad nw l us → (∀ h' tk m', Inv c f m' nw ad (ρ.setAll xs l) σ h' → Q () { s with heap := h', toks := tk }) →
    wpAny (model c.prog c.w) f.A (assignInOrder ts us) Q E s := by
  induction st with
  | nil =>
    intro l us s m nw ad ρ σ Q E hx hl I r h
    cases r with
    | nil => exact wpAny_pure (h s.heap s.toks m I)
    | cons _ _ => exact nomatch hl
  | cons ht hts ih =>
    intro l us s m nw ad ρ σ Q E hx hl I r h
    cases r with
    | nil => exact nomatch hl
    | cons a b =>
      show wpAny _ _ (do holding _ (_); assignInOrder _ _) Q E s
      refine wpAny_bind (wpAny_holding (ht _ _ _ _ (wpAny_bindName (store_go ok (hx _ (.head _)).1 (hx _ (.head _)).2 I a fun h' tk m' I' => ?_))))
      exact ih (s := { s with heap := h', toks := tk }) (fun x hm => hx x (.tail _ hm)) (Nat.succ.inj hl) I' b fun h'' tk' m'' I'' => h h'' tk' m'' I''

theorem chkNames_st {k : Ck} (kn : k.names = f.scope.names) : ∀ {xs : List String} {els : List PySem.Expr}, chkNames k xs els = true → StR c f ((assignEach els f.env).map (·.2)) xs ∧ (∀ x ∈ xs, f.scope.names.lookup (S x) = some .local ∧ x ≠ "script") ∧ (assignEach els f.env).findIdx? (·.1) = none ∧ (assignEach els f.env).length = xs.length ∧ els.length = xs.length
  | [], els, h => by
    obtain rfl := chkNames_nil h
    exact ⟨.nil, (fun _ h => nomatch h), rfl, rfl, rfl⟩
  | x :: xs, els, h => by
    · obtain ⟨y, p, els, rfl, h0, hx, hr⟩ := chkNames_cons h
      obtain ⟨rfl, hl, hd⟩ := Ck.loc h0
      obtain ⟨a, b, d, e, g⟩ := chkNames_st kn hr
      refine ⟨.cons (fun v s Q E hw => ?_) a, fun z hz => ?_, ?_, congrArg (· + 1) e, congrArg (· + 1) g⟩
      · show wpAny _ _ (do standAt p; bindName f.env (S x) v) Q E s
        exact wpAny_bind (wpAny_standAt hw)
      · rcases List.mem_cons.mp hz with rfl | hz
        · exact ⟨kn ▸ hl, hx⟩
        · exact b z hz
      · show List.findIdx? _ ((false, _) :: assignEach els f.env) = none
        rw [List.findIdx?_cons]
        simpa using d

theorem st_names : ∀ (xs : List String), StR c f ((xs.map S).map fun n => bindName f.env n) xs
  | [] => .nil
  | x :: xs => .cons (fun _ _ _ _ h => h) (st_names xs)

theorem chkNames_fm {k : Ck} (kn : k.names = f.scope.names) {line : Nat} {gm : PySem.Expr → Option Str} (hg : ∀ id pos, gm (.Name id pos) = if (f.env.kindOf id == some .local && pos.line == line) = true then some id else none) : ∀ {xs : List String} {els : List PySem.Expr}, chkNames k xs els = true → (els.all fun e => e.pos.line == line) = true →
    els.filterMap gm = xs.map S
  | [], els, h, _ => by
    obtain rfl := chkNames_nil h
    rfl
  | x :: xs, els, h, hp => by
    · obtain ⟨y, p, els, rfl, h0, hx, hr⟩ := chkNames_cons h
      obtain ⟨rfl, hl, hd⟩ := Ck.loc h0
      rw [List.all_cons, Bool.and_eq_true] at hp
      have hp1 : (p.line == line) = true := hp.1
      have hk : (f.env.kindOf (S x) == some NameKind.local) = true := by
        show (f.scope.names.lookup (S x) == _) = true
        rw [← kn, hl]; rfl
      rw [List.filterMap_cons, hg]
      simp only [hk, hp1, Bool.and_self, if_true, List.map_cons]
      rw [chkNames_fm kn hg hr hp.2]

theorem blockKind_fn (ok : FmOk c n f) : f.env.blockKind = .function := by
  unfold Env.blockKind
  show (if f.scope.kind.isAnnotationScope then _ else f.scope.kind) = _
  rw [ok.kind]; rfl

theorem swap_eq {k : Ck} (ok : FmOk c n f) (kn : k.names = f.scope.names) {xs : List String} {els : List PySem.Expr} {kk tp} {v : PySem.Expr} {b : Bool} (h : chkNames k xs els = true) (hd : ((xs.map Str.ofString).eraseDups.length == xs.length) = true) (hs : swapKind els v = some b) :
    swappedStores [.Tuple els kk tp] v f.env = pure (if b then some (xs.map S) else none) := by
  have hlen := (chkNames_st (c := c) kn h).2.2.2.2
  cases v with
  | Tuple vs k2 p2 =>
    simp only [swapKind] at hs
    split at hs
    · rename_i hc
      simp only [Bool.and_eq_true] at hc
      obtain ⟨⟨⟨h1, h2⟩, h3⟩, h4⟩ := hc
      have hst : ∀ g : PySem.Expr → Bool, (∀ x, plainE x = true → g x = false) → vs.any g = false := fun g hg => by
        rw [List.any_eq_false]
        intro x hx
        rw [hg x (List.all_eq_true.mp h3 x hx)]; decide
      unfold swappedStores
      simp only [blockKind_fn ok]
      rw [if_neg (by simp only [h1, bne, h2]; decide)]
      rw [hst _ (fun x hx => by cases x <;> first | rfl | exact nomatch hx), chkNames_fm kn (fun _ _ => rfl) h h4]
      simp only [Bool.false_eq_true, if_false, List.length_map]
      have hdd : ((xs.map S).eraseDups.length != xs.length) = false := by
        rw [bne, show ((xs.map S).eraseDups.length == xs.length) = true from hd]; rfl
      rw [if_neg (by rw [hdd, hlen]; simp)]
      split at hs
      · rename_i hf
        cases hs
        rw [if_pos hf]; rfl
      · rename_i hf
        split at hs
        · cases hs
        · rename_i hg
          cases hs
          rw [if_neg hf, if_neg hg]; rfl
    · cases hs
  | _ => simp only [swapKind, Option.some.injEq] at hs; subst hs; rfl

theorem noComp_sole {v : PySem.Expr} {t : PySem.Expr} {line : Nat} {env : Env} (h : noComp v = true) : swapsWithSole [t] v line env = pure false := noComp_swaps h
theorem x_asgT {k : Ck} {xs : List String} {els : List PySem.Expr} {e : PySem.Expr} {kk tp pos} {rest : List Stmt} {g : Loc → Hp → Res PV} {gk : SR} {b : Bool} (ok : FmOk c n f) (kn : k.names = f.scope.names) (hn : chkNames k xs els = true) (hnd : xs.Nodup)
    (hd : ((xs.map Str.ofString).eraseDups.length == xs.length) = true) (hs : swapKind els e = some b) (hc : noComp e = true) (he : SoundE c f e g) (hk : SoundX c f rest gk) :
    SoundX c f (.Assign [.Tuple els kk tp] e pos :: rest) fun ρ σ => (g ρ σ).bind fun v σ => match v with
      | .tup l => if l.length = xs.length then gk (ρ.setAll xs l) σ else .stuck
      | _ => .stuck := fun {s m nw ad ρ σ Q E} I H => by
  obtain ⟨st, hloc, hstar, hlen, hlen'⟩ := chkNames_st (c := c) kn hn
  have hw := swap_eq (kk := kk) (tp := tp) ok kn hn hd hs
  have hh : f.A.handled = none := ok.handled
  cases b with
  | false =>
    refine wpAny_execs_cons (PyProof.Rows.Assign_Tuple (he I (PostS.bind (R' := VR) H fun v σ₁ h₁ tk₁ nw₁ ad₁ u I₁ X₁ r₁ H₁ => ?_)) (noComp_sole hc) hw)
    split at H₁
    · split at H₁
      · rename_i l hl
        cases r₁ with
        | @tup _ a vs n hm hl' r =>
          refine assign_Tuple_tuple (s := { s with heap := h₁, toks := tk₁ }) hh (led_tup I₁.N hm) (by rw [hlen, List.size_toArray, r.length, hl]) hstar fun h' hx => ?_
          have I' : Inv c f m nw₁ ad₁ ρ σ₁ h' := I₁.keeps fun b o e => hx b o (Nat.ne_of_lt (Heap.lt_size e)) e
          refine stores_go (s := { s with heap := h', toks := tk₁ }) ok st hloc hl I' r fun h'' tk m' I'' => ?_
          exact hk (s := { s with heap := h'', toks := tk }) I'' (PostS.shift (Ext.refl _ _) H₁)
      · exact H₁.elim
    · exact H₁.elim
  | true =>
    refine wpAny_execs_cons (PyProof.Rows.Assign_Tuple_swapped (he I (PostS.bind (R' := VR) H fun v σ₁ h₁ tk₁ nw₁ ad₁ u I₁ X₁ r₁ H₁ => ?_)) (noComp_sole hc) hw)
    split at H₁
    · split at H₁
      · rename_i l hl
        cases r₁ with
        | @tup _ a vs n hm hl' r =>
          have e : (xs.map S).length = vs.toArray.size := by rw [List.length_map, List.size_toArray, r.length, hl]
          rw [e]
          refine unpackItems_tuple (s := { s with heap := h₁, toks := tk₁ }) hh (led_tup I₁.N hm) fun h' hx => ?_
          have I' : Inv c f m nw₁ ad₁ ρ σ₁ h' := I₁.keeps fun b o e => hx b o (Nat.ne_of_lt (Heap.lt_size e)) e
          have st' : StR c f ((xs.map S).reverse.map fun n => bindName f.env n) xs.reverse := by
            rw [← List.map_reverse]; exact st_names xs.reverse
          refine stores_go (s := { s with heap := h', toks := tk₁ }) ok st' (fun x hx => hloc x (List.mem_reverse.mp hx)) (l := l.reverse) (by simpa using hl) I' r.reverse fun h'' tk m' I'' => ?_
          rw [setAll_rev hnd hl.symm] at I''
          exact hk (s := { s with heap := h'', toks := tk }) I'' (PostS.shift (Ext.refl _ _) H₁)
      · exact H₁.elim
    · exact H₁.elim

/-- one entry of the ledger, no abstract object's, is changed or dropped -/
theorem Inv.swap {m : Str → Option Value} {nw nw₂ : Led} {ad : Ads} {ρ : Loc} {σ : Hp} {h h' : Heap} (I : Inv c f m nw ad ρ σ h) {d : Addr} {o : Obj} (hm : (d, o) ∈ nw) (hn : d ∉ adrs ad) (ht : ∀ vs n, o ≠ tupObj vs n)
    (kp : ∀ b ob, b ≠ d → h.get? b = some ob → h'.get? b = some ob) (sub : ∀ p ∈ nw, p.1 ≠ d → p ∈ nw₂) (back : ∀ p ∈ nw₂, p.1 ≠ d → p ∈ nw) (at_ : ∀ p ∈ nw₂, p.1 = d → h'.get? d = some p.2) (nd₂ : (nw₂.map (·.1)).Nodup) : Inv c f m nw₂ ad ρ σ h' := by
  have nt : ∀ vs n, (d, tupObj vs n) ∉ nw := fun vs n hx => ht vs n (nodup_get I.nd hm hx)
  have tup : ∀ a vs n, (a, tupObj vs n) ∈ nw → (a, tupObj vs n) ∈ nw₂ := fun a vs n hx => sub _ hx fun e => nt vs n (e ▸ hx)
  have dL : d ≠ f.L := (I.N _ hm).2.1
  have dB : c.base.get? d = none := (I.N _ hm).2.2
  have nsk : ∀ b m', b ≠ d → h.Ns b m' → h'.Ns b m' := fun b m' hb ⟨o, es, ep, ho, r⟩ => ⟨o, es, ep, kp b o hb ho, r⟩
  refine ⟨⟨nsk _ _ (Ne.symm dL) I.F.ns, fun b ob e => kp b ob (fun q => by rw [q, dB] at e; cases e) (I.F.keep b ob e), I.F.above⟩, fun p hp => ?_, nd₂, fun p hp => ?_, fun x v hx => ?_, ⟨I.H.len, fun i po q hi hq => ?_⟩, I.ap, I.sc⟩
  · by_cases e : p.1 = d
    · have := at_ p hp e
      exact ⟨e ▸ this, e ▸ (I.N _ hm).2⟩
    · have hp' := back p hp e
      exact ⟨kp _ _ e (I.N p hp').1, (I.N p hp').2⟩
  · obtain ⟨a, Lp, b, ns, z, e, g⟩ := I.sf p hp
    refine ⟨a, Lp, b, nsk _ _ (fun q => g _ hm q.symm) ns, z, e, fun q hq => ?_⟩
    by_cases e' : q.1 = d
    · exact fun w => g _ hm (e' ▸ w)
    · exact g q (back q hq e')
  · obtain ⟨u, hu, r⟩ := I.L x v hx
    exact ⟨u, hu, r.mono (fun _ _ e => e) tup⟩
  · have a1 : q.1 ≠ d := fun e => hn (mem_adrs.mpr ⟨i, q, hq, .inl e.symm⟩)
    have a2 : q.2 ≠ d := fun e => hn (mem_adrs.mpr ⟨i, q, hq, .inr e.symm⟩)
    exact (I.H.at_ i po q hi hq).keep (fun _ _ e => e) tup (fun o' ho' => sub _ ho' a1) fun o' ho' => sub _ ho' a2

theorem Inv.touch {m : Str → Option Value} {nw : Led} {ad : Ads} {ρ : Loc} {σ : Hp} {h h' : Heap} (I : Inv c f m nw ad ρ σ h) {d : Addr} {o o' : Obj} (hm : (d, o) ∈ nw) (hn : d ∉ adrs ad) (ht : ∀ vs n, o ≠ tupObj vs n)
    (hsb : Heap.SameBut d h h') (ho' : h'.get? d = some o') : Inv c f m (updL nw d o') ad ρ σ h' :=
  I.swap hm hn ht (fun b ob hb e => (hsb.2 b hb).trans e) (fun p hp hne => (mem_updL_ne (a := p.1) (o' := p.2) hne).mpr hp) (fun p hp hne => (mem_updL_ne (a := p.1) (o' := p.2) hne).mp hp)
    (fun p hp e => by
      obtain ⟨a, b⟩ := p
      cases e
      have := mem_updL_self_eq hp
      rw [this]; exact ho') (by rw [updL_fst]; exact I.nd)
theorem Inv.drop {m : Str → Option Value} {nw : Led} {ad : Ads} {ρ : Loc} {σ : Hp} {h h' : Heap} (I : Inv c f m nw ad ρ σ h) {d : Addr} {o : Obj} (hm : (d, o) ∈ nw) (hn : d ∉ adrs ad) (ht : ∀ vs n, o ≠ tupObj vs n)
    (hx : ∀ b ob, b ≠ d → h.get? b = some ob → h'.get? b = some ob) : Inv c f m (nw.filter fun p => p.1 != d) ad ρ σ h' :=
  I.swap hm hn ht hx (fun p hp hne => List.mem_filter.mpr ⟨hp, by simpa using hne⟩) (fun p hp _ => (List.mem_filter.mp hp).1)
    (fun p hp e => by have := (List.mem_filter.mp hp).2; simp [e] at this) (List.Nodup.sublist (List.filter_sublist.map _) I.nd)

theorem Ext.touch {ad ad' : Ads} {nw nw' : Led} {d : Addr} {o : Obj} (X : Ext ad nw ad' nw') (hd : ∀ p ∈ nw, p.1 ≠ d) : Ext ad nw ad' (updL nw' d o) :=
  ⟨X.pre, fun a o h n => (mem_updL_ne (hd _ h)).mpr (X.keep a o h n), fun a vs n h => (mem_updL_ne (hd _ h)).mpr (X.tup a vs n h), X.fresh⟩
theorem Ext.drop {ad ad' : Ads} {nw nw' : Led} {d : Addr} (X : Ext ad nw ad' nw') (hd : ∀ p ∈ nw, p.1 ≠ d) : Ext ad nw ad' (nw'.filter fun p => p.1 != d) :=
  ⟨X.pre, fun a o h n => List.mem_filter.mpr ⟨X.keep a o h n, by simpa using hd _ h⟩, fun a vs n h => List.mem_filter.mpr ⟨X.tup a vs n h, by simpa using hd _ h⟩, X.fresh⟩
theorem Ext.off {ad ad' : Ads} {nw nw' : Led} {d : Addr} {o : Obj} (X : Ext ad nw ad' nw') (hm : (d, o) ∈ nw) (hn : d ∉ adrs ad) : d ∉ adrs ad' ∧ (d, o) ∈ nw' :=
  ⟨fun h => (X.fresh d h).elim hn fun q => q _ hm rfl, X.keep d o hm hn⟩

end
end Mine
end
section
/-! Soundness, part 14: loops over ranges and lists. -/
open PySem PySem.W PySem.Calls PyProof.Rows
set_option maxRecDepth 100000
set_option linter.unusedVariables false
namespace Mine

section
variable {α β : Type} {R : Ads → Led → α → β → Prop} {c : FC} {n : Nat} {f : Fm} {m : Str → Option Value} {ad ad' : Ads} {nw nw' : Led} {ρ : Loc} {s : Shared} {E : Value → Shared → Prop}

theorem PostS.split {γ δ : Type} {R' : Ads → Led → γ → δ → Prop} {Q : β → Shared → Prop} {r : Res (γ × Loc)} {k : γ × Loc → Hp → Res (α × Loc)} {h : Heap} {tk : Nat} (H : PostS R c f ad nw s Q E (r.bind k)) (X : Ext ad nw ad' nw') {Q' : δ → Shared → Prop}
    (next : ∀ p σ₁ h₁ tk₁ m₁ nw₁ ad₁ u, Inv c f m₁ nw₁ ad₁ p.2 σ₁ h₁ → Ext ad' nw' ad₁ nw₁ → R' ad₁ nw₁ p.1 u → PostS R c f ad nw s Q E (k p σ₁) → Q' u { s with heap := h₁, toks := tk₁ }) :
    PostS R' c f ad' nw' { s with heap := h, toks := tk } Q' E r := by
  cases r with
  | stuck => exact H
  | ok v σ => exact fun h' tk' m' nw' ad' u I X' r => next v σ h' tk' m' nw' ad' u I X' r H
  | err t i σ => exact fun e s' T => H e s' (Thrown.back X T)
end

noncomputable abbrev rangeIt (x left step : Int) : Obj := { cls := .type "range_iterator", dict := none, data := .fields #[rawInt x, rawInt left, rawInt step], slots := #[] }
theorem rangeIt_nt (x l st : Int) : ∀ vs n, rangeIt x l st ≠ tupObj vs n := fun vs n e => by simp [rangeIt] at e

section
variable {c : FC} {n : Nat} {f : Fm} {k : Ck}

theorem mem_updL {l : Led} {d : Addr} {o o' : Obj} (h : (d, o) ∈ l) : (d, o') ∈ updL l d o' := mem_updL_self h

theorem forR_core {x : String} {px : Pos} {body : List Stmt} {gb : SR} {I : Addr} {a stp : Int} {N : Nat} {Q : Flow → Shared → Prop} {E : Value → Shared → Prop} (ok : FmOk c n f) (hl : f.scope.names.lookup (S x) = some .local) (hx : x ≠ "script")
    (hb : SoundX c f body gb) {s : Shared} {nw : Led} {ad : Ads} {h : Heap} {tk : Nat} {m : Str → Option Value} {nw' : Led} {ad' : Ads} {ρ : Loc} {σ : Hp} (I₀ : Inv c f m nw' ad' ρ σ h) (X : Ext ad nw ad' nw') (hm : (I, rangeIt a N stp) ∈ nw') (off : I ∉ adrs ad') (hd : ∀ p ∈ nw, p.1 ≠ I)
    (H : PostS FR c f ad nw s Q (notedBy (model c.prog c.w) f.A f.env (cameBackBy (model c.prog c.w) f.A f.env E)) (loopL x gb ((List.range N).map fun (k : Nat) => PV.int (a + k * stp)) ρ σ)) :
    codeAny (model c.prog c.w) f.A (.forLoop (.Name (S x) px) (.ref I) body [] f.env) (fun r s' => match r with | .ok fl => Q fl s' | .error e => cameBackBy (model c.prog c.w) f.A f.env E e s') { s with heap := h, toks := tk } := by
  have hh : f.A.handled = none := ok.handled
  refine codeAny_forLoop (fun kk s' => ∃ h' tk' m' nw' ad' ρ' σ' i, s' = { s with heap := h', toks := tk' } ∧ Inv c f m' nw' ad' ρ' σ' h' ∧ Ext ad nw ad' nw' ∧ (I, rangeIt (a + (i : Nat) * stp) ((N : Int) - (i : Nat)) stp) ∈ nw' ∧ I ∉ adrs ad' ∧ i ≤ N ∧ kk = N + 1 - i ∧
    PostS FR c f ad nw s Q (notedBy (model c.prog c.w) f.A f.env (cameBackBy (model c.prog c.w) f.A f.env E)) (loopL x gb (((List.range N).map fun (k : Nat) => PV.int (a + k * stp)).drop i) ρ' σ')) ?_ (N + 1)
    ⟨h, tk, m, nw', ad', ρ, σ, 0, rfl, I₀, X, by simpa using hm, off, Nat.zero_le _, rfl, by simpa using H⟩
  rintro kk s' ⟨h', tk', m', nw', ad', ρ', σ', i, rfl, I', X', hm', off', hi, rfl, H'⟩
  have hit : IsRangeIter h' I (a + (i : Nat) * stp) ((N : Int) - (i : Nat)) stp := (I'.N _ hm').1
  by_cases hlt : i < N
  · refine wpAny_pyNext_range_item (s := { s with heap := h', toks := tk' }) hit (by omega) fun h₁ hit₁ hs₁ => ?_
    have I₁ := I'.touch hm' off' (rangeIt_nt _ _ _) hs₁ hit₁
    have X₁ := X'.touch (o := rangeIt (a + (i : Nat) * stp + stp) ((N : Int) - (i : Nat) - 1) stp) hd
    refine wpAny_assign_Name (store_go (s := { s with heap := h₁, toks := tk' + 1 }) ok hl hx I₁ (.int _ tk') fun h₂ tk₂ m₂ I₂ => ?_)
    have hdr : ((List.range N).map fun (k : Nat) => PV.int (a + k * stp)).drop i = PV.int (a + i * stp) :: ((List.range N).map fun (k : Nat) => PV.int (a + k * stp)).drop (i + 1) := by
      rw [List.drop_eq_getElem_cons (by simpa using hlt)]
      simp
    rw [hdr] at H'
    unfold loopL at H'
    refine hb (s := { s with heap := h₂, toks := tk₂ }) I₂ (PostS.split (R' := FR) H' X₁ fun p σ₃ h₃ tk₃ m₃ nw₃ ad₃ u I₃ X₃ r₃ H₃ => ?_)
    obtain ⟨off₃, hm₃⟩ := X₃.off (mem_updL hm') off'
    obtain ⟨fl, ρ₃⟩ := p
    cases fl with
    | next =>
      cases r₃
      refine ⟨N + 1 - (i + 1), by omega, h₃, tk₃, m₃, nw₃, ad₃, ρ₃, σ₃, i + 1, rfl, I₃, X₁.trans X₃, ?_, off₃, hlt, rfl, H₃⟩
      have e1 : a + ((i + 1 : Nat) : Int) * stp = a + (i : Int) * stp + stp := by push_cast; rw [Int.add_mul, Int.one_mul, Int.add_assoc]
      have e2 : (N : Int) - ((i + 1 : Nat) : Int) = (N : Int) - (i : Int) - 1 := by push_cast; omega
      rw [e1, e2]
      exact hm₃
    | brk =>
      cases r₃
      exact H₃ h₃ tk₃ m₃ nw₃ ad₃ .next I₃ (X₁.trans X₃) rfl
    | ret v =>
      obtain ⟨y, rfl, r₃⟩ := r₃
      exact H₃ h₃ tk₃ m₃ nw₃ ad₃ (.ret y) I₃ (X₁.trans X₃) ⟨y, rfl, r₃⟩
  · have hin : i = N := by omega
    subst hin
    refine wpAny_pyNext_range_end (s := { s with heap := h', toks := tk' }) hh hit (by omega) fun h₁ he₁ => wpAny_execs_nil ?_
    have I₁ := I'.drop hm' off' (rangeIt_nt _ _ _) he₁
    rw [List.drop_of_length_le (by simp)] at H'
    exact H' h₁ tk' m' _ ad' .next I₁ (X'.drop hd) rfl

theorem onInt_some {α : Type} {a : PV} {k : Int → Option α} {r : α} (h : Mine.onInt Option.none a k = some r) : ∃ x, a = .int x ∧ k x = some r := by
  cases a <;> first | exact ⟨_, rfl, h⟩ | exact nomatch h
theorem x_forR {x : String} {px np cp pos : Pos} {es : List PySem.Expr} {body rest : List Stmt} {ga : Loc → Hp → Res PV} {gb gk : SR} (ok : FmOk c n f) (hl : f.scope.names.lookup (S x) = some .local) (hx : x ≠ "script")
    (hk : f.scope.names.lookup (S "range") = some .globalImplicit) (hv : nsIn c.K mainGlobals (S "range") = some none) (hne : es.isEmpty = false) (ha : SoundA c f es ga) (hb : SoundX c f body gb) (hr : SoundX c f rest gk) :
    SoundX c f (.For (.Name (S x) px) (.Call (.Name (S "range") np) es [] cp) body [] pos :: rest) fun ρ σ => (ga ρ σ).bind fun vs σ => match rangeOf (argsOf vs) with
      | some l => thenK (loopL x gb (l.map .int) ρ σ) gk
      | Option.none => .stuck := fun {s m nw ad ρ σ Q E} I H => by
  cases es with
  | nil => cases hne
  | cons e0 er =>
  refine wpAny_execs_cons (wpAny_For (Call_ (bi_name ok I hk (by decide +kernel) hv PyProof.Rows.Boot.range (by decide +kernel) ?_) rfl))
  refine PyProof.Rows.callWith_type1 (ha.args I (PostS.bind (R' := ArgR) H fun v σ₁ h₁ tk₁ nw₁ ad₁ us I₁ X₁ r₁ H₁ => ?_)) (star_plain (ha.plain _ (.head _))) (star_any fun y hy => ha.plain y (.tail _ hy))
  have r₁' : VRs ad₁ nw₁ (argsOf v) us := r₁
  generalize argsOf v = vl at r₁' H₁
  split at H₁
  · rename_i l hl'
    have H₂ := PostS.passes ok (thenK_go hr H₁)
    have fin : ∀ {h₂ : Heap} {tk₂ : Nat} {A B C : Int} {t u w : Tok} {nw₂ : Led}, Inv c f m nw₂ ad₁ ρ σ₁ h₂ → Ext ad₁ nw₁ ad₁ nw₂ → (h₁.objs.size ≤ h₂.objs.size) → IsRange h₂ h₁.objs.size A B C t u w → Builtin.Range.small A B C = true →
        0 ≤ Builtin.Range.rangeSize A B C → l = ((List.range (Builtin.Range.rangeSize A B C).toNat).map fun (k : Nat) => A + k * C) →
        wpAny (model c.prog c.w) f.A (pyIter (.ref h₁.objs.size)) (fun it s₂ => codeAny (model c.prog c.w) f.A (.forLoop (.Name (S x) px) it body [] f.env) (fun r s' => match r with | .ok fl => Behind c f rest Q E fl s' | .error e => cameBackBy (model c.prog c.w) f.A f.env E e s') s₂) E { s with heap := h₂, toks := tk₂ } := by
      intro h₂ tk₂ A B C t u w nw₂ I₂ X₂ hsz hr hs hp hl₂
      refine wpAny_pyIter_range hr hs ?_
      have I₃ := I₂.push (rangeIt A (Builtin.Range.rangeSize A B C) C) rfl
      have off : h₂.objs.size ∉ adrs ad₁ := fun h => by
        obtain ⟨o, ho, _⟩ := I₂.adr_mem h
        exact Nat.lt_irrefl _ (led_lt I₂.N _ ho)
      have e : (((Builtin.Range.rangeSize A B C).toNat : Nat) : Int) = Builtin.Range.rangeSize A B C := Int.toNat_of_nonneg hp
      refine forR_core (s := { s with heap := h₁, toks := tk₁ }) (nw := nw₁) (ad := ad₁) (N := (Builtin.Range.rangeSize A B C).toNat) (a := A) (stp := C) ok hl hx hb I₃ (X₂.trans (Ext.add1 _)) (by rw [e]; exact .head _) off ?_ ?_
      · intro p hp' e'
        have h1 : p.1 < h₁.objs.size := led_lt I₁.N p hp'
        have h2 : p.1 = h₂.objs.size := e'
        rw [h2] at h1
        exact absurd h1 (Nat.not_lt.mpr hsz)
      · rw [hl₂, List.map_map] at H₂
        exact H₂
    rcases vl with _ | ⟨v1, _ | ⟨v2, _ | ⟨v3, _ | ⟨v4, vr⟩⟩⟩⟩
    · exact nomatch hl'
    · obtain ⟨N, rfl, hl1⟩ := onInt_some hl'
      obtain ⟨hN, rfl⟩ := ifSome hl1
      cases r₁' with
      | cons a b =>
        cases b
        cases a with
        | int _ t =>
          have I₂ := I₁.push { cls := .type "range", data := .fields #[.int 0 tk₁, .int N t, .int 1 (tk₁ + 1)] } rfl
          have hsz : Builtin.Range.rangeSize 0 N 1 = if 0 < N then N - 0 else 0 := rangeSize_one 0 N
          refine call_range_1 (s := { s with heap := h₁, toks := tk₁ }) (fin I₂ (Ext.add1 _) (by simp) (IsRange.new ..) (small_one (by omega) (by omega) (by omega) (by omega)) ?_ ?_)
          · rw [hsz]; split <;> omega
          · rw [hsz]
            have : (if 0 < N then N - 0 else 0).toNat = N.toNat := by split <;> omega
            rw [this]
            refine List.map_congr_left fun k _ => ?_
            omega
    · exact nomatch hl'
    · obtain ⟨A, rfl, hl1⟩ := onInt_some hl'
      obtain ⟨B, rfl, hl2⟩ := onInt_some hl1
      obtain ⟨C, rfl, hl3⟩ := onInt_some hl2
      obtain ⟨⟨rfl, rfl, hN⟩, rfl⟩ := ifSome hl3
      cases r₁' with
      | cons a b =>
        cases b with
        | cons b d =>
          cases d with
          | cons d z =>
            cases z
            cases a with
            | int _ t =>
              cases b with
              | int _ t2 =>
                cases d with
                | int _ t3 =>
                  have I₂ := I₁.push { cls := .type "range", data := .fields #[.int A t, .int (-1) t2, .int (-1) t3] } rfl
                  have hsz : Builtin.Range.rangeSize A (-1) (-1) = if -1 < A then A + 1 else 0 := by
                    unfold Builtin.Range.rangeSize
                    rw [if_neg (by decide), show (A - -1 - 1) / - -1 = A from by rw [show (- -1 : Int) = 1 from rfl, Int.ediv_one]; omega]
                  refine call_range_3 (s := { s with heap := h₁, toks := tk₁ }) (by decide) (fin I₂ (Ext.add1 _) (by simp) (IsRange.new ..) ?_ ?_ ?_)
                  · unfold Builtin.Range.small
                    rw [hsz]
                    simp only [Builtin.Range.rangeFitsLong, Bool.and_eq_true, Bool.or_eq_true, decide_eq_true_eq, beq_iff_eq, show ¬ ((-1 : Int) > 0) by decide, if_false]
                    split <;> omega
                  · rw [hsz]; split <;> omega
                  · rw [hsz]
                    have : (if -1 < A then A + 1 else 0).toNat = (A + 1).toNat := by split <;> omega
                    rw [this]
                    refine List.map_congr_left fun k _ => ?_
                    omega
    · exact nomatch hl'
  · exact H₁.elim

/-- a list's iterator -/
theorem forL_core {x : String} {px : Pos} {body : List Stmt} {gb : SR} {It : Addr} {o : Nat} {xa : Addr} {Q : Flow → Shared → Prop} {E : Value → Shared → Prop} (ok : FmOk c n f) (hl : f.scope.names.lookup (S x) = some .local) (hx : x ≠ "script")
    (hb : SoundX c f body gb) {s : Shared} {nw : Led} {ad : Ads} {h : Heap} {tk : Nat} {m : Str → Option Value} {nw' : Led} {ad' : Ads} {ρ : Loc} {σ : Hp} (I₀ : Inv c f m nw' ad' ρ σ h) (X : Ext ad nw ad' nw') (w : Nat)
    (hxa : ∃ d, ad'[o]? = some (xa, d)) (hm : ∃ ob, (It, ob) ∈ nw' ∧ ob.cls = .type "list_iterator" ∧ ob.data = .fields #[.ref xa, .int ((0 : Nat) : Int) 0]) (off : It ∉ adrs ad') (hd : ∀ p ∈ nw, p.1 ≠ It)
    (H : PostS FR c f ad nw s Q (notedBy (model c.prog c.w) f.A f.env (cameBackBy (model c.prog c.w) f.A f.env E)) (loopI x o gb w 0 ρ σ)) :
    codeAny (model c.prog c.w) f.A (.forLoop (.Name (S x) px) (.ref It) body [] f.env) (fun r s' => match r with | .ok fl => Q fl s' | .error e => cameBackBy (model c.prog c.w) f.A f.env E e s') { s with heap := h, toks := tk } := by
  have hh : f.A.handled = none := ok.handled
  refine codeAny_forLoop (fun kk s' => ∃ h' tk' m' nw' ad' ρ' σ' i, s' = { s with heap := h', toks := tk' } ∧ Inv c f m' nw' ad' ρ' σ' h' ∧ Ext ad nw ad' nw' ∧ (∃ d, ad'[o]? = some (xa, d)) ∧
    (∃ ob, (It, ob) ∈ nw' ∧ ob.cls = .type "list_iterator" ∧ ob.data = .fields #[.ref xa, .int ((i : Nat) : Int) 0]) ∧ It ∉ adrs ad' ∧
    PostS FR c f ad nw s Q (notedBy (model c.prog c.w) f.A f.env (cameBackBy (model c.prog c.w) f.A f.env E)) (loopI x o gb kk i ρ' σ')) ?_ w
    ⟨h, tk, m, nw', ad', ρ, σ, 0, rfl, I₀, X, hxa, hm, off, H⟩
  rintro kk s' ⟨h', tk', m', nw', ad', ρ', σ', i, rfl, I', X', ⟨d, hxa'⟩, ⟨ob, hm', hc', hd'⟩, off', H'⟩
  have nt : ∀ vs n, ob ≠ tupObj vs n := fun vs n e => by rw [e] at hc'; simp at hc'
  have hit : h'.IsListIter It xa i := ⟨ob, (I'.N _ hm').1, hc', hd'⟩
  cases kk with
  | zero => exact H'.elim
  | succ kk =>
    unfold loopI at H'
    cases hla : listAt σ' o with
    | none => rw [hla] at H'; exact H'.elim
    | some l =>
      rw [hla] at H'
      dsimp only at H'
      obtain ⟨vs, nn, h1, r, h3, _⟩ := I'.listAt hla hxa'
      have hL : h'.IsList xa vs.toArray := led_list I'.N h1
      cases hli : l[i]? with
      | none =>
        rw [hli] at H'
        have hlen := r.length
        refine wpAny_pyNext_list_end (s := { s with heap := h', toks := tk' }) hh hit hL (by
          rw [List.getElem?_toArray]
          rw [List.getElem?_eq_none_iff] at hli ⊢
          omega) fun h₁ he₁ => wpAny_execs_nil ?_
        have I₁ := I'.drop hm' off' nt he₁
        exact H' h₁ tk' m' _ ad' .next I₁ (X'.drop hd) rfl
      | some v =>
        rw [hli] at H'
        dsimp only at H'
        obtain ⟨u, hu, ru⟩ := r.get hli
        refine wpAny_pyNext_list_item (s := { s with heap := h', toks := tk' }) hit hL (by simpa using hu) fun h₁ hit₁ hs₁ => ?_
        obtain ⟨ob₁, ho₁, hc₁, hd₁⟩ := hit₁
        have I₁ := I'.touch hm' off' nt hs₁ ho₁
        have X₁ := X'.touch (o := ob₁) hd
        have tup : ∀ a vs n, (a, tupObj vs n) ∈ nw' → (a, tupObj vs n) ∈ updL nw' It ob₁ := fun a vs n hmm =>
          (mem_updL_ne fun (e : a = It) => by subst e; exact nt _ _ (nodup_get I'.nd hm' hmm)).mpr hmm
        refine wpAny_assign_Name (store_go (s := { s with heap := h₁, toks := tk' }) ok hl hx I₁ (ru.mono (fun _ _ e => e) tup) fun h₂ tk₂ m₂ I₂ => ?_)
        refine hb (s := { s with heap := h₂, toks := tk₂ }) I₂ (PostS.split (R' := FR) H' X₁ fun p σ₃ h₃ tk₃ m₃ nw₃ ad₃ u I₃ X₃ r₃ H₃ => ?_)
        obtain ⟨off₃, hm₃⟩ := X₃.off (mem_updL hm') off'
        obtain ⟨fl, ρ₃⟩ := p
        cases fl with
        | next =>
          cases r₃
          exact ⟨kk, Nat.lt_succ_self kk, h₃, tk₃, m₃, nw₃, ad₃, ρ₃, σ₃, i + 1, rfl, I₃, X₁.trans X₃, ⟨d, X₃.pre _ _ hxa'⟩, ⟨ob₁, hm₃, hc₁, hd₁⟩, off₃, H₃⟩
        | brk =>
          cases r₃
          exact H₃ h₃ tk₃ m₃ nw₃ ad₃ .next I₃ (X₁.trans X₃) rfl
        | ret v =>
          obtain ⟨y, rfl, r₃⟩ := r₃
          exact H₃ h₃ tk₃ m₃ nw₃ ad₃ (.ret y) I₃ (X₁.trans X₃) ⟨y, rfl, r₃⟩

theorem folded_noSet {it : PySem.Expr} (h : noSet it = true) (v : Value) : foldedSetIterable it f.env v = pure v := by
  cases it <;> first | rfl | exact nomatch h

theorem x_forL {x : String} {px pos : Pos} {it : PySem.Expr} {body rest : List Stmt} {ge : Loc → Hp → Res PV} {gb gk : SR} {w : Nat} (ok : FmOk c n f) (hl : f.scope.names.lookup (S x) = some .local) (hx : x ≠ "script")
    (hns : noSet it = true) (he : SoundE c f it ge) (hb : SoundX c f body gb) (hr : SoundX c f rest gk) :
    SoundX c f (.For (.Name (S x) px) it body [] pos :: rest) fun ρ σ => (ge ρ σ).bind fun v σ => match v with
      | .obj n => thenK (loopI x n gb w 0 ρ σ) gk
      | _ => .stuck := fun {s m nw ad ρ σ Q E} I H => by
  refine wpAny_execs_cons (wpAny_For (he I (PostS.bind (R' := VR) H fun v σ₁ h₁ tk₁ nw₁ ad₁ u I₁ X₁ r₁ H₁ => ?_)) (folded_noSet hns))
  cases v with
  | obj o =>
    dsimp only at H₁
    have H₂ := PostS.passes ok (thenK_go hr H₁)
    cases r₁ with
    | @obj _ xa d ha =>
      have hw : ∃ l, listAt σ₁ o = some l := by
        cases w with
        | zero => exact H₂.elim
        | succ w =>
          unfold loopI at H₂
          cases hla : listAt σ₁ o with
          | none => rw [hla] at H₂; exact H₂.elim
          | some l => exact ⟨l, rfl⟩
      obtain ⟨l, hla⟩ := hw
      obtain ⟨vs, nn, h1, r, h3, _⟩ := I₁.listAt hla ha
      refine wpAny_pyIter_list (s := { s with heap := h₁, toks := tk₁ }) (led_list I₁.N h1) ?_
      have I₃ := I₁.push { cls := .type "list_iterator", data := .fields #[.ref xa, .int 0 0] } rfl
      have off : h₁.objs.size ∉ adrs ad₁ := fun h => by
        obtain ⟨o, ho, _⟩ := I₁.adr_mem h
        exact Nat.lt_irrefl _ (led_lt I₁.N _ ho)
      refine forL_core (s := { s with heap := h₁, toks := tk₁ }) (nw := nw₁) (ad := ad₁) (w := w) (o := o) (xa := xa) ok hl hx hb I₃ (Ext.add1 _) ⟨d, ha⟩ ⟨_, .head _, rfl, rfl⟩ off ?_ H₂
      intro p hp' e'
      have h1 : p.1 < h₁.objs.size := led_lt I₁.N p hp'
      have h2 : p.1 = h₁.objs.size := e'
      exact absurd h1 (by rw [h2]; exact Nat.lt_irrefl _)
  | _ => exact H₁.elim
end
end Mine
end
section
/-! Soundness, part 15: calls of the text's defs. -/
open PySem PySem.W PySem.Calls PyProof.Rows
set_option maxRecDepth 100000
set_option linter.unusedVariables false
set_option linter.unusedSimpArgs false
namespace Mine

theorem lookup_zip {n : Str} {u : Value} : ∀ {names : List Str} {us : List Value}, names.Nodup → (n, u) ∈ names.zip us → (names.zip us).lookup n = some u
  | [], _, _, h => by simp at h
  | _ :: _, [], _, h => by simp at h
  | x :: xs, v :: vs, hn, h => by
    rw [List.zip_cons_cons] at h ⊢
    rw [List.nodup_cons] at hn
    rw [List.lookup_cons]
    rcases List.mem_cons.mp h with h | h
    · cases h; simp
    · have : n ≠ x := fun e => hn.1 (e ▸ (List.of_mem_zip h).1)
      have e : (n == x) = false := by simpa using this
      rw [e]
      exact lookup_zip hn.2 h
theorem filterMap_zip {names : List Str} {us : List Value} (hn : names.Nodup) (hl : names.length = us.length) : names.filterMap (fun n => ((names.zip us).lookup n).map (n, ·)) = names.zip us := by
  have key : ∀ (a : List Str) (b : List Value) (l : List (Str × Value)), a.length = b.length → (∀ p ∈ a.zip b, l.lookup p.1 = some p.2) → a.filterMap (fun n => (l.lookup n).map (n, ·)) = a.zip b := by
    intro a
    induction a with
    | nil => intro b l _ _; simp
    | cons x xs ih =>
      intro b l h1 h2
      cases b with
      | nil => simp at h1
      | cons v vs =>
        rw [List.zip_cons_cons, List.filterMap_cons]
        rw [h2 (x, v) (by simp)]
        simp only [Option.map_some]
        rw [ih vs l (by simpa using h1) fun p hp => h2 p (by simp [hp])]
  exact key names us _ hl fun p hp => lookup_zip hn hp

theorem bindArgs_pos {fd : FuncData} {as : List Arg} {us : List Value} (hp : fd.params = ⟨[], as, none, [], [], none, []⟩) (hd : fd.defaults = .none) (hn : (as.map (·.arg)).Nodup) (hl : as.length = us.length) :
    bindArgs fd ⟨us, []⟩ = pure ((as.map (·.arg)).zip us) := by
  have hl' : (as.map (·.arg)).length = us.length := by simpa using hl
  have hf := filterMap_zip hn hl'
  have hsome : (List.map (fun a : Arg => a.arg) as).filter (fun n => (List.lookup n ((List.map (fun a : Arg => a.arg) as).zip us)).isNone) = [] := by
    rw [List.filter_eq_nil_iff]
    intro n hm
    obtain ⟨i, hi, rfl⟩ := List.getElem_of_mem hm
    have hm' : ((as.map (·.arg))[i], us[i]'(hl' ▸ hi)) ∈ (as.map (·.arg)).zip us := by
      have hz : i < ((as.map (·.arg)).zip us).length := by rw [List.length_zip, ← hl']; omega
      have : ((as.map (·.arg)).zip us)[i] = ((as.map (·.arg))[i], us[i]'(hl' ▸ hi)) := List.getElem_zip
      exact this ▸ List.getElem_mem hz
    rw [lookup_zip hn hm']; simp
  have hs : seqItems? Value.none = pure none := rfl
  have hlt : ¬ (us.length > as.length) := by omega
  obtain ⟨nm, qn, pr, bd, sc, gl, cl, df, kd, dc, pm, an, cd, ct, bi⟩ := fd
  dsimp only at hp hd
  subst hp hd
  have e1 : (List.map (fun a : Arg => a.arg) as).take as.length = List.map (fun a : Arg => a.arg) as := List.take_of_length_le (by simp)
  unfold bindArgs
  simp only [List.map_nil, List.nil_append, List.append_nil, List.length_map, hs, Option.getD_none, pure_bind, List.forIn_nil, hlt, decide_false, Bool.false_and, Bool.false_eq_true, if_false, List.length_nil, List.drop_nil, Nat.sub_zero, Nat.zero_sub, List.drop_zero, e1, hsome, List.isEmpty_nil, Bool.not_true, List.zip_nil_right, hf]

theorem lookup_rev {l : List (Str × Value)} (hn : (l.map (·.1)).Nodup) {k : Str} {u : Value} (h : (k, u) ∈ l) : l.reverse.lookup k = some u := by
  have key : ∀ (l : List (Str × Value)), (l.map (·.1)).Nodup → (k, u) ∈ l → l.lookup k = some u := by
    intro l
    induction l with
    | nil => intro _ h; cases h
    | cons p r ih =>
      intro hn h
      obtain ⟨a, b⟩ := p
      simp only [List.map_cons, List.nodup_cons] at hn
      rw [List.lookup_cons]
      rcases List.mem_cons.mp h with h | h
      · cases h; simp
      · have : k ≠ a := fun e => hn.1 (e ▸ List.mem_map_of_mem (f := (·.1)) h)
        have e : (k == a) = false := by simpa using this
        rw [e]
        exact ih hn.2 h
  exact key _ (by rw [List.map_reverse]; exact List.pairwise_reverse.mpr (hn.imp Ne.symm)) (List.mem_reverse.mpr h)

theorem bindL_facts {ad : Ads} {nw : Led} : ∀ {ps : List String} {vs : List PV} {ρ : Loc} {us : List Value}, bindL ps vs = some ρ → VRs ad nw vs us → ps.length = us.length ∧ ∀ x v, ρ x = some v → ∃ u, (S x, u) ∈ (ps.map S).zip us ∧ VR ad nw v u
  | [], [], ρ, us, h, r => by
    cases r; cases h
    exact ⟨rfl, fun x v h => by cases h⟩
  | [], _ :: _, _, _, h, _ => by cases h
  | _ :: _, [], _, _, h, _ => by cases h
  | x :: xs, v :: vs, ρ, us, h, r => by
    cases r with
    | cons a b =>
      unfold bindL at h
      obtain ⟨ρ', hρ, rfl⟩ := Option.map_eq_some_iff.mp h
      obtain ⟨q1, q2⟩ := bindL_facts hρ b
      refine ⟨by simp [q1], fun y w hy => ?_⟩
      unfold Loc.set at hy
      rw [List.map_cons, List.zip_cons_cons]
      by_cases e : y = x
      · subst e
        rw [if_pos rfl] at hy; cases hy
        exact ⟨_, .head _, a⟩
      · rw [if_neg e] at hy
        obtain ⟨u, hu, ru⟩ := q2 y w hy
        exact ⟨u, .tail _ hu, ru⟩

noncomputable abbrev Fm.sub (f : Fm) (A : Around) (m : Str → Option Value) (q : Str) (sc : Scope) (L a : Addr) (cd : Value) : Fm := ⟨A, (f.env, m) :: f.sf, q, sc, L, a, cd, none⟩

section
variable {c : FC} {n : Nat} {f : Fm} {A : Around}

/-- what surrounds a call out of the frame -/
structure Near (f : Fm) (A : Around) : Prop where
  frames : A.frames = f.A.frames
  handled : A.handled = f.A.handled
  depth : A.depth ≤ f.A.depth + 4
  units : A.units ≤ f.A.units + 30
theorem Near.refl (f : Fm) : Near f f.A := ⟨rfl, rfl, Nat.le_add_right _ _, Nat.le_add_right _ _⟩

theorem FmOk.sub (ok : FmOk c (n + 1) f) (nr : Near f A) {m : Str → Option Value} {q : Str} {sc : Scope} {L a : Addr} {cd : Value} (hk : sc.kind = .function) : FmOk c n (f.sub A m q sc L a cd) := by
  refine ⟨nr.frames.trans ok.framesA, nr.handled.trans ok.handled, hk, ?_, ?_, ok.X, ok.T⟩
  · have h1 := ok.depth
    have h2 : A.depth ≤ f.A₀.depth + 1 + 4 := nr.depth
    show A.depth + 8 * n + 20 < recursionLimit
    omega
  · have h1 := ok.units
    have h2 : A.units ≤ f.A₀.units + 3 + 30 := nr.units
    show A.units + 40 * n + 200 < cLine
    omega

theorem Inv.down {m mb : Str → Option Value} {nw : Led} {ad : Ads} {ρ ρ' : Loc} {σ : Hp} {h h₀ : Heap} (ok : FmOk c n f) (I : Inv c f m nw ad ρ σ h) {q : Str} {sc : Scope} {a : Addr} {cd : Value} (hns : h₀.Ns h.objs.size mb) (hk : ∀ b o, h.get? b = some o → h₀.get? b = some o)
    (hρ : ∀ x v, ρ' x = some v → ∃ u, mb (S x) = some u ∧ VR ad nw v u) : Inv c (f.sub A m q sc h.objs.size a cd) mb nw ad ρ' σ h₀ := by
  obtain ⟨oL, es, ep, hoL, hdL, rL⟩ := I.F.ns
  have Llt : f.L < h.objs.size := Heap.lt_size hoL
  refine ⟨⟨hns, fun b o e => hk b o (I.F.keep b o e), Nat.le_of_lt (Nat.lt_of_le_of_lt I.F.above Llt)⟩, fun p hp => ⟨hk _ _ (I.N p hp).1, Nat.ne_of_lt (led_lt I.N p hp), (I.N p hp).2.2⟩, I.nd, fun p hp => ?_, hρ, I.H, I.ap, trivial⟩
  rcases List.mem_cons.mp hp with rfl | hp
  · refine ⟨?_, f.L, rfl, ⟨oL, es, ep, hk _ _ hoL, hdL, rL⟩, I.F.above, Nat.ne_of_lt Llt, fun q hq => (I.N q hq).2.1⟩
    show f.scope.kind ≠ .module
    rw [ok.kind]; decide
  · obtain ⟨z, Lp, b, ⟨o, es', ep', ho, r⟩, d, e, g⟩ := I.sf p hp
    exact ⟨z, Lp, b, ⟨o, es', ep', hk _ _ ho, r⟩, d, Nat.ne_of_lt (Heap.lt_size ho), g⟩

theorem Inv.up {m m' : Str → Option Value} {nw nw' : Led} {ad ad' : Ads} {ρ ρ' : Loc} {σ σ' : Hp} {h h' : Heap} (I : Inv c f m nw ad ρ σ h) {q : Str} {sc : Scope} {L a : Addr} {cd : Value} (I' : Inv c (f.sub A m q sc L a cd) m' nw' ad' ρ' σ' h') (X : Ext ad nw ad' nw') :
    Inv c f m nw' ad' ρ σ' h' := by
  obtain ⟨_, Lf, bf, nsf, df, ef, gf⟩ := I'.sf (f.env, m) (.head _)
  have : Lf = f.L := (Option.some.inj bf).symm
  subst this
  refine ⟨⟨nsf, I'.F.keep, I.F.above⟩, fun p hp => ⟨(I'.N p hp).1, gf p hp, (I'.N p hp).2.2⟩, I'.nd, fun p hp => ?_, fun x v hx => ?_, I'.H, I'.ap, I.sc⟩
  · obtain ⟨z, Lp, b, ns, d, e, g⟩ := I'.sf p (.tail _ hp)
    obtain ⟨_, Lq, b', _, _, e', _⟩ := I.sf p hp
    rw [b] at b'; cases b'
    exact ⟨z, Lp, b, ns, d, e', g⟩
  · obtain ⟨u, hu, r⟩ := I.L x v hx
    exact ⟨u, hu, r.ext X⟩

theorem adr_sub {m : Str → Option Value} {q : Str} {sc : Scope} {L a : Addr} {cd : Value} {b : Addr} (h : b ∈ f.adr) : b ∈ (f.sub A m q sc L a cd).adr := by
  rcases mem_adr.mp h with rfl | ⟨p, hp, e⟩
  · exact mem_adr.mpr (.inr ⟨(f.env, m), .head _, rfl⟩)
  · exact mem_adr.mpr (.inr ⟨p, .tail _ hp, e⟩)

/-- an exception leaves a called def's frame -/
theorem wp_leave {m : Str → Option Value} {nw : Led} {ad : Ads} {ρ : Loc} {σ σ₀ : Hp} {M : Model} {h : Heap} {tk : Nat} {s : Shared} {t : String} {i : Int} {Eo E : Value → Shared → Prop} {q : Str} {sc : Scope} {L a : Addr} {cd : Value} (ok : FmOk c n f) (hk : sc.kind = .function)
    (I₀ : Inv c f m nw ad ρ σ₀ s.heap) (ok' : FmOk c 0 (f.sub A m q sc L a cd)) (H : ∀ e s', Thrown c f ad nw t i σ s e s' → E e s') :
    ∀ e s', Thrown c (f.sub A m q sc L a cd) ad nw t i σ { s with heap := h, toks := tk } e s' →
      wpAny M (f.sub A m q sc L a cd).A (leaving (f.sub A m q sc L a cd).env e) (fun _ s'' => E e s'') Eo s' := by
  rintro e s' ⟨ea, de, h', tk', m', nw', ad', ρ', n', k1, k2, t1, t2, rfl, rfl, I, X, hd, Fl⟩
  unfold leaving
  refine wpAny_bind (wp_note (P := fun _ => True) (N := True) ok' ok'.framesA I Fl fun h₂ I₂ H₂ => ?_)
  refine wp_setFl (g := none) I₂ H₂ fun h₃ I₃ H₃ => ?_
  refine H _ _ ⟨ea, de, h₃, tk', m, nw', ad', ρ, n', k1, k2, t1, t2, rfl, rfl, I₀.up I₃ X, X, hd, ?_⟩
  obtain ⟨a1, a2, a3, oe, vs, e1, e2, e3, e4, e5, e6⟩ := H₃
  refine ⟨a1, a2, fun h => a3 (adr_sub h), oe, vs, e1, e2, e3, e4, e5, ?_⟩
  rcases e6 with ⟨hf, _⟩ | ⟨T, oT, ts, x, r1, r2, r3, r4, r5, r6, r7, r8, r9⟩
  · exact hf.elim
  · exact .inr ⟨T, oT, ts, x, r1, r2, r3, r4, fun h => r5 (adr_sub h), r6, r7, r8, .inl r9⟩

noncomputable def vFunc : (d : Data) → Option {q : FuncData // d = .func q}
  | .func fd => some ⟨fd, rfl⟩
  | _ => none
noncomputable def vStmts : (d : FuncBody) → Option {q : List Stmt // d = .stmts q}
  | .stmts b => some ⟨b, rfl⟩
  | _ => none
noncomputable def isNoneV (v : Value) : Bool := match v with
  | .none => true
  | _ => false
theorem isNoneV_inv {v : Value} (h : isNoneV v = true) : v = .none := by
  cases v <;> first | rfl | exact nomatch h
noncomputable def plainArgs (p : Arguments) : Bool := p.posonlyargs.isEmpty && p.vararg.isNone && p.kwonlyargs.isEmpty && p.kw_defaults.isEmpty && p.kwarg.isNone && p.defaults.isEmpty
theorem plainArgs_inv {p : Arguments} (h : plainArgs p = true) : p = ⟨[], p.args, none, [], [], none, []⟩ := by
  obtain ⟨a, b, c, d, e, f, g⟩ := p
  have i : ∀ {α : Type} {o : Option α}, o.isNone = true → o = none := fun h => Option.isNone_iff_eq_none.mp h
  replace h := and2 h
  obtain ⟨h, h1⟩ := h
  replace h := and2 h
  obtain ⟨h, h2⟩ := h
  replace h := and2 h
  obtain ⟨h, h3⟩ := h
  replace h := and2 h
  obtain ⟨h, h4⟩ := h
  replace h := and2 h
  obtain ⟨h, h5⟩ := h
  obtain rfl : a = [] := isEmpty_inv h
  obtain rfl : c = none := i h5
  obtain rfl : d = [] := isEmpty_inv h4
  obtain rfl : e = [] := isEmpty_inv h3
  obtain rfl : f = none := i h2
  obtain rfl : g = [] := isEmpty_inv h1
  rfl
/-- a def without anything special about its names, with its block -/
noncomputable def kFun (o : Option Obj) (f : FuncData → List Stmt → Bool) : Bool := match o with
  | some o => vok (vFunc o.data) fun fd => plainArgs fd.params && isNoneV fd.defaults && fd.globals == mainGlobals && fd.builtins == builtinsNs && vok (vStmts fd.body) fun b => f fd b
  | none => false
theorem kFun_inv {o : Option Obj} {f : FuncData → List Stmt → Bool} (h : kFun o f = true) : ∃ oc od osl fd b, o = some ⟨oc, od, .func ⟨fd.name, fd.qualname, ⟨[], fd.params.args, none, [], [], none, []⟩, .stmts b, fd.scope, mainGlobals, fd.closure, .none, fd.kwdefaults, fd.doc, fd.pyModule, fd.annotations, fd.code, fd.closureTuple, builtinsNs⟩, osl⟩ ∧ f fd b = true := by
  cases o with
  | none => exact nomatch h
  | some o =>
    obtain ⟨fd, h1, h⟩ := vok_inv (o := vFunc o.data) (f := fun fd => plainArgs fd.params && isNoneV fd.defaults && fd.globals == mainGlobals && fd.builtins == builtinsNs && vok (vStmts fd.body) fun b => f fd b) h
    replace h := and2 h
    obtain ⟨h, h2⟩ := h
    replace h2 := vok_inv h2
    obtain ⟨b, h3, h4⟩ := h2
    replace h := and2 h
    obtain ⟨h, h5⟩ := h
    replace h := and2 h
    obtain ⟨h, h6⟩ := h
    replace h := and2 h
    obtain ⟨h7, h8⟩ := h
    refine ⟨o.cls, o.dict, o.slots, fd, b, ?_, h4⟩
    rw [← plainArgs_inv h7, ← isNoneV_inv h8, ← h3, ← beq_iff_eq.mp h5, ← beq_iff_eq.mp h6, ← h1]

/-- a def of the text's, as the written heap has it: read off by computation -/
noncomputable def defOk (K : Frag) (fns ms : List String) (a : Addr) (d : FnDef) : Bool := kFun (K.lookup a) fun fd b =>
    fd.closure.isEmpty && codeIn K fd.code fd.qualname && fd.params.args.map (·.arg) == d.params.map Str.ofString && decide d.params.Nodup && fd.scope.kind == .function && !fd.scope.isGenerator && !fd.scope.isCoroutine &&
      fd.scope.names.all (fun x => x.2 != .cell) && d.params.all (fun x => fd.scope.names.lookup (Str.ofString x) == some .local) && chkB ⟨fd.scope.names, fns, ms⟩ d.body b

structure DefAt (c : FC) (fns ms : List String) (a : Addr) (d : FnDef) (qn : Str) (sc : Scope) (cd : Value) (b : List Stmt) : Prop where
  at_ : ∃ oc od osl nm as kd dc pm an ct, c.K.lookup a = some ⟨oc, od, .func ⟨nm, qn, ⟨[], as, none, [], [], none, []⟩, .stmts b, sc, mainGlobals, [], .none, kd, dc, pm, an, cd, ct, builtinsNs⟩, osl⟩ ∧ as.map (·.arg) = d.params.map S
  code : codeIn c.K cd qn = true
  nodup : d.params.Nodup
  kind : sc.kind = .function
  gen : sc.isGenerator = false
  cor : sc.isCoroutine = false
  cell : ∀ x ∈ sc.names, x.2 ≠ .cell
  loc : ∀ x ∈ d.params, sc.names.lookup (S x) = some .local
  chk : chkB ⟨sc.names, fns, ms⟩ d.body b = true
theorem defAt_of {fns ms : List String} {a : Addr} {d : FnDef} (h : defOk c.K fns ms a d = true) : ∃ qn sc cd b, DefAt c fns ms a d qn sc cd b := by
  obtain ⟨oc, od, osl, fd, b, ho, h⟩ := kFun_inv h
  obtain ⟨h, h11⟩ := and2 h
  obtain ⟨h, h10⟩ := and2 h
  obtain ⟨h, h9⟩ := and2 h
  obtain ⟨h, h8⟩ := and2 h
  obtain ⟨h, h7⟩ := and2 h
  obtain ⟨h, h6⟩ := and2 h
  obtain ⟨h, h5⟩ := and2 h
  obtain ⟨h, h4⟩ := and2 h
  obtain ⟨h1, h3⟩ := and2 h
  rw [isEmpty_inv h1] at ho
  exact ⟨_, _, _, b, ⟨_, _, _, _, _, _, _, _, _, _, ho, beq_iff_eq.mp h4⟩, h3, of_decide_eq_true h5, beq_iff_eq.mp h6, not_inv h7, not_inv h8, fun x hx => bne_iff_ne.mp (List.all_eq_true.mp h9 x hx), fun x hx => beq_iff_eq.mp (List.all_eq_true.mp h10 x hx), h11⟩

/-- what a def does, called -/
noncomputable def runDef (cf : CF) (w : Nat) (d : FnDef) (vs : List PV) (σ : Hp) : Res PV := match bindL d.params vs with
  | Option.none => .stuck
  | some ρ => (ex cf none w d.body ρ σ).bind fun p σ => .ok (retOf p.1) σ
theorem callN_eq {tbl : String → Option FnDef} {w n : Nat} {x : String} {d : FnDef} (h : tbl x = some d) (vs : List PV) (σ : Hp) : callN tbl w (n + 1) x vs σ = runDef (callN tbl w n) w d vs σ := by
  unfold callN runDef
  rw [h] <;> rfl

theorem codeAt_of {cf : CF} {w : Nat} {fns ms : List String} {a : Addr} {d : FnDef} {qn : Str} {sc : Scope} {cd : Value} {b : List Stmt} (ok : FmOk c (n + 1) f) (nr : Near f A) (D : DefAt c fns ms a d qn sc cd b)
    (hx : ∀ f' : Fm, FmOk c n f' → f'.scope = sc → f'.sc = none → SoundX c f' b (ex cf none w d.body)) {args : List PV} {us : List Value} {s : Shared} {m : Str → Option Value} {nw : Led} {ad : Ads} {ρ : Loc} {σ : Hp} {R : Result → Shared → Prop}
    (I : Inv c f m nw ad ρ σ s.heap) (r : VRs ad nw args us)
    (H : Post VR c f m ad nw ρ s (fun v s' => R (.ok (.ret v)) s') (fun e s' => R (.error e) s') (runDef cf w d args σ)) : codeAny (model c.prog c.w) A (.call (.ref a) ⟨us, []⟩) R s := by
  obtain ⟨oc, od, osl, nm, as, kd, dc, pm, an, ct, ho, has⟩ := D.at_
  unfold runDef at H
  cases hb : bindL d.params args with
  | none => rw [hb] at H; exact H.elim
  | some ρ' =>
    rw [hb] at H
    dsimp only at H
    obtain ⟨q1, q2⟩ := bindL_facts hb r
    have X := ok.X.keeps I.F.keep
    have nds : (d.params.map S).Nodup := nodup_S D.nodup
    have hlen : as.length = us.length := by rw [← q1, ← List.length_map (f := S), ← has, List.length_map]
    have hzip : ((d.params.map S).zip us).map (·.1) = d.params.map S := by
      rw [List.map_fst_zip]
      rw [List.length_map, q1]
      exact Nat.le_refl _
    refine codeAny_call_def (fd := ⟨nm, qn, ⟨[], as, none, [], [], none, []⟩, .stmts b, sc, mainGlobals, [], .none, kd, dc, pm, an, cd, ct, builtinsNs⟩) (body := b) (binds := (d.params.map S).zip us) ?_ (X _ _ ho) rfl (ok.T.nolimit.keeps I.F.keep) (codeRec_of X D.code) rfl
      (BindsTo.of_eq (by rw [← has]; exact bindArgs_pos rfl rfl (by rw [has]; exact nds) hlen)) D.cell (fun x hx => ?_) (fun h₀ hns hk => ?_) D.cor D.gen D.kind
    · have h1 := ok.depth
      have h2 : A.depth ≤ f.A₀.depth + 1 + 4 := nr.depth
      show A.depth < recursionLimit
      omega
    · obtain ⟨y, hy, e⟩ := List.mem_map.mp (List.of_mem_zip (a := x.1) (b := x.2) hx).1
      rw [← e]; exact D.loc y hy
    · have okn := ok.sub nr (m := m) (q := qn) (sc := sc) (L := s.heap.objs.size) (a := a) (cd := cd) D.kind
      have I' : Inv c (f.sub A m qn sc s.heap.objs.size a cd) (fun x => ((d.params.map S).zip us).reverse.lookup x) nw ad ρ' σ h₀ := I.down ok hns hk fun x v hv => by
        obtain ⟨u, hu, ru⟩ := q2 x v hv
        exact ⟨u, lookup_rev (by rw [hzip]; exact nds) hu, ru⟩
      refine hx _ okn rfl rfl (s := { s with heap := h₀, toks := s.toks + ((d.params.map S).zip us).length }) I' ?_
      cases he : ex cf none w d.body ρ' σ with
      | stuck => rw [he] at H; exact H.elim
      | ok p σ' =>
        rw [he] at H
        intro h' tk' m' nw' ad' u I'' X' ru
        obtain ⟨fl, ρ''⟩ := p
        have I₃ := I.up I'' X'
        cases fl with
        | next => cases ru; exact H h' tk' nw' ad' _ I₃ X' .none
        | brk => cases ru; exact H h' tk' nw' ad' _ I₃ X' .none
        | ret v =>
          obtain ⟨y, rfl, ru⟩ := ru
          exact H h' tk' nw' ad' _ I₃ X' ru
      | err t i σ' =>
        rw [he] at H
        exact wp_leave ok D.kind I ⟨okn.stack, okn.handled, okn.kind, by have := okn.depth; omega, by have := okn.units; omega, okn.X, okn.T⟩ H

theorem callAt_of {cf : CF} {w : Nat} {fns ms : List String} {a : Addr} {d : FnDef} {qn : Str} {sc : Scope} {cd : Value} {b : List Stmt} (ok : FmOk c (n + 1) f) (D : DefAt c fns ms a d qn sc cd b)
    (hx : ∀ f' : Fm, FmOk c n f' → f'.scope = sc → f'.sc = none → SoundX c f' b (ex cf none w d.body)) :
    CallAt c f a (runDef cf w d) := fun {args us s m nw ad ρ σ Q E} I r H =>
  wpAny_call (codeAt_of ok (.refl f) D hx I r H)
end
end Mine
end
section
/-! Soundness, part 16: an object of the parser's class is made. -/
open PySem PySem.W PySem.Calls PyProof.Rows
set_option maxRecDepth 100000
set_option linter.unusedVariables false
namespace Mine

section
variable {c : FC} {n : Nat} {f : Fm}

theorem near_under (a : Addr) (us : List Value) (kw : List (Str × Value)) : Near f (f.A.under (.builtin "type.__call__" ⟨.ref a :: us, kw⟩)) := by
  have h1 : (Code.builtin "type.__call__" ⟨.ref a :: us, kw⟩).weight = 1 := rfl
  have h2 : (Code.builtin "type.__call__" ⟨.ref a :: us, kw⟩).cUnits = 1 := rfl
  refine ⟨rfl, rfl, ?_, ?_⟩
  · show f.A.depth + (Code.builtin "type.__call__" ⟨.ref a :: us, kw⟩).weight ≤ _
    rw [h1]; omega
  · show f.A.units + (Code.builtin "type.__call__" ⟨.ref a :: us, kw⟩).cUnits ≤ _
    rw [h2]; omega

theorem newAt_of {cf cf' : CF} {w : Nat} {fns ms : List String} {a : Addr} {d : FnDef} {qn : Str} {sc : Scope} {cd : Value} {b : List Stmt} (ok : FmOk c (n + 1) f) (D : DefAt c fns ms a d qn sc cd b)
    (hx : ∀ f' : Fm, FmOk c n f' → f'.scope = sc → f'.sc = none → SoundX c f' b (ex cf none w d.body)) (hm : makesIn c.K c.C = true) (hi : findIn c.K (.ref c.C) "__init__" = some (some (.ref a))) (hf : isFn c.K (.ref a) = true)
    (hg : ∀ vs σ, cf' ".__init__" vs σ = runDef cf w d vs σ) : NewAt c f cf' := fun {v u s m nw ad ρ σ Q E} I r H => by
  obtain ⟨news, N, sub, close⟩ := I.grow
  refine call_cls I.F ok.X N hm hi hf fun x dx h' F' N' l1 l2 => ?_
  have I₁ := close h' [(x, instObj c.C dx), (dx, dictOf [] 0)] F' N' (fun p hp q hq => by
    rcases List.mem_cons.mp hp with rfl | hp
    · exact Nat.lt_trans (l1 q hq) l2
    · rw [List.mem_singleton] at hp; subst hp; exact l1 q hq) (by simpa using Nat.ne_of_gt l2)
  have new1 : ∀ p ∈ nw, p.1 ≠ x := fun p hp e => Nat.lt_irrefl _ (e ▸ Nat.lt_trans (l1 p (sub p hp)) l2)
  have new2 : ∀ p ∈ nw, p.1 ≠ dx := fun p hp e => Nat.lt_irrefl _ (e ▸ l1 p (sub p hp))
  have off1 : x ∉ adrs ad := fun h => by
    obtain ⟨o, ho, _⟩ := I.adr_mem h
    exact new1 _ ho rfl
  have off2 : dx ∉ adrs ad := fun h => by
    obtain ⟨o, ho, _⟩ := I.adr_mem h
    exact new2 _ ho rfl
  have I₂ := I₁.adopt (o := .inst []) (q := (x, dx)) ⟨[], 0, .head _, .tail _ (.head _), .nil, by simp⟩ off1 off2
  have X₂ : Ext ad nw (ad ++ [(x, dx)]) ([(x, instObj c.C dx), (dx, dictOf [] 0)] ++ nw) := Ext.adopt (fun p hp => .tail _ (.tail _ hp)) new1 new2
  have hself : VR (ad ++ [(x, dx)]) ([(x, instObj c.C dx), (dx, dictOf [] 0)] ++ nw) (.obj σ.length) (.ref x) := .obj (d := dx) (by rw [← I.H.len]; simp)
  refine codeAt_of (s := { s with heap := h' }) ok (near_under _ _ _) D hx I₂ (.cons hself (.cons (r.ext X₂) .nil)) ?_
  rw [← hg]
  unfold newV at H
  cases he : cf' ".__init__" [.obj σ.length, v] (σ ++ [.inst []]) with
  | stuck => rw [he] at H; exact H.elim
  | err t i σ' =>
    rw [he] at H
    exact fun e s' T => H e s' (Thrown.back (h := h') (tk := s.toks) X₂ T)
  | ok rv σ' =>
    rw [he] at H
    intro h'' tk nw'' ad'' y I'' X'' ry
    cases rv with
    | none =>
      cases ry
      exact ⟨rfl, H h'' tk nw'' ad'' (.ref x) I'' (X₂.trans X'') (hself.ext X'')⟩
    | _ => exact H.elim
end
end Mine
end
section
/-! Soundness, part 17: an exception of the text's own class is made. -/
open PySem PySem.W PySem.Calls PyProof.Rows
set_option maxRecDepth 100000
set_option linter.unusedVariables false
set_option maxHeartbeats 4000000
namespace Mine

noncomputable abbrev excObj (C t : Addr) : Obj := { cls := .ref C, data := .fields #[.ref t, .none, .none, .none, .bool false, .none] }

section
variable {prog : Program} {w : World} {M : Model} {A : Around} {E : Value → Shared → Prop} {h : Heap} {g : Array GenState} {d : Drawn} {t : Nat} {os : OsState}
variable {nm q : Str} {C N : Addr} {bs bm : List Value} {hdct : Bool} {sn : List Str} {sub : List Value} {ab : Bool} {col : Option Bool} {dd : Option Addr} {k0 k1 k2 k3 k5 : Option Value}

/-- the classes above, but for built-in ones other than Exception's -/
structure ExcTail (bm : List Value) : Prop where
  exc : bm.contains (.type "Exception") = true
  base : bm.contains (.type "BaseException") = true
  attr : bm.contains (.type "AttributeError") = false
  name : bm.contains (.type "NameError") = false

theorem xc_check (T : ExcTail bm) {rest : List Value} {Q : Unit → Shared → Prop} (hC : h.get? C = some (excClassObj nm q C N bs bm hdct sn sub ab col dd k0 k1 k2 k3 k5 "Exception.__new__"))
    (hq : Q () ⟨h, g, d, t, os⟩) : wpAny M A (checkBuiltinCall "Exception.__new__" ⟨.ref C :: rest, []⟩) Q E ⟨h, g, d, t, os⟩ := by
  have F := PySem.F.excBase_Exception
  have hcont : (Value.ref C :: bm).contains (.type "Exception") = true := by rw [List.contains_cons, T.exc, Bool.or_true]
  have hstar := F.noStar
  simp only [checkBuiltinCall, F.newKind, F.newSplit, F.newRow]
  repeat (first | refine wpAny_loadPart_at hC ?_ | (refine wpAny_isSubtype_exc hC ?_; rw [hcont]) | refine wpAny_staticBase_exc hC ?_ | refine wpAny_madeBy_exc hC ?_ | simp only [bne_self_eq_false, Bool.false_eq_true, if_false] | wp_step)
  exact hq

theorem xc_new (T : ExcTail bm) {R : Result → Shared → Prop} {rest : List Value} (hC : h.get? C = some (excClassObj nm q C N bs bm hdct sn sub ab col dd k0 k1 k2 k3 k5 "Exception.__new__"))
    (hq : R (.ok (.ret (.ref (h.objs.size + 1)))) ⟨(h.push { cls := .type "tuple", data := .seq rest.toArray }).push (excObj C h.objs.size), g, d, t, os⟩) (hrest : rest.length ≤ sizeLine) :
    codeAny (model prog w) A (.builtin "Exception.__new__" ⟨.ref C :: rest, []⟩) R ⟨h, g, d, t, os⟩ := by
  have F := PySem.F.excBase_Exception
  have hends := F.ends
  have hcB : (Value.ref C :: bm).contains (.type "Exception") = true := by rw [List.contains_cons, T.exc, Bool.or_true]
  have hcA : (Value.ref C :: bm).contains (.type "AttributeError") = false := by rw [List.contains_cons, T.attr]; rfl
  have hcN : (Value.ref C :: bm).contains (.type "NameError") = false := by rw [List.contains_cons, T.name]; rfl
  refine codeAny_builtinAt F.entry ?_
  unfold Builtin.«BaseException.__new__»
  refine PySem.wpAt_bind ?_
  show PySem.wpAt _ _ _ (stack >>= _) _ _ _
  refine PySem.wpAt_bind (PySem.wpAt_stack fun p below => PySem.wpAt_of_wpAny ?_)
  wp_walk
  refine PySem.wpAt_of_wpAny ?_
  rw [F.owner]
  repeat (first | with_reducible refine wpAny_madeHere_exc F.canon hC ?_ | with_reducible refine wpAny_loadPart_at hC ?_ | (with_reducible refine wpAny_isSubtype_exc hC ?_; first | rw [hcB] | rw [hcA] | rw [hcN]) | wp_step)
  show R _ _
  rw [Heap.size_push]
  exact hq

/-- the class is called: a new object, then __init__ -/
theorem xc_call (T : ExcTail bm) {rest : List Value} {Q : Value → Shared → Prop} {K : Frag} {fI : Addr} (X : K.In h) (hC : h.get? C = some (excClassObj nm q C N bs bm hdct sn sub ab col dd k0 k1 k2 k3 k5 "Exception.__new__"))
    (hi : findIn K (.ref C) "__init__" = some (some (.ref fI))) (hf : isFn K (.ref fI) = true) (hrest : rest.length ≤ sizeLine)
    (hq : codeAny (model prog w) (A.under (.builtin "type.__call__" ⟨.ref C :: rest, []⟩)) (.call (.ref fI) ⟨.ref (h.objs.size + 1) :: rest, []⟩) (InitBack (h.objs.size + 1) fun r s' => match r with | .ok (.ret v) => Q v s' | .ok _ => False | .error e => E e s')
      ⟨(h.push { cls := .type "tuple", data := .seq rest.toArray }).push (excObj C h.objs.size), g, d, t, os⟩) :
    wpAny (model prog w) A (call (.ref C) rest) Q E ⟨h, g, d, t, os⟩ := by
  have F := PySem.F.excBase_Exception
  have f1 := tc_lookup
  have f2 := tc_bind (.ref C)
  have hT : (⟨h, g, d, t, os⟩ : Shared).TypeIs (.ref C) "type" := ⟨_, hC, rfl⟩
  refine wpAny_call (codeAny_of_tree ?_)
  show wpAny _ _ (callAny (.ref C) _) _ _ _
  repeat (any_goals (first | assumption | with_reducible refine wpAny_loadPart_at hC ?_ | wp_step))
  refine ⟨rfl, ?_⟩
  refine codeAny_call_builtin_at (Code.quiet_builtin _ (by decide +kernel)) entry_typeCall (wpAny_check_type_call_sub hC ?_)
  repeat (first | with_reducible refine wpAny_loadPart_at hC ?_ | with_reducible refine wpAny_madeBy_exc hC ?_ | wp_step)
  refine codeAny_call_builtin_code (Code.quiet_builtin _ F.quiet) (xc_check T hC ?_)
  refine xc_new T hC ?_ hrest
  show wpAny _ _ _ _ _ _
  have k : ∀ b o, h.get? b = some o → ((h.push { cls := .type "tuple", data := .seq rest.toArray }).push (excObj C h.objs.size)).get? b = some o := fun b o e => Heap.get?_push_of_some _ (Heap.get?_push_of_some _ e)
  have hC₁ := k _ _ hC
  have hget : ((h.push { cls := .type "tuple", data := .seq rest.toArray }).push { cls := .ref C, data := .fields #[.ref h.objs.size, .none, .none, .none, .bool false, .none] }).get? (h.objs.size + 1) = some { cls := .ref C, data := .fields #[.ref h.objs.size, .none, .none, .none, .bool false, .none] } := by heap_get
  have hcC : (Value.ref C :: bm).contains (.ref C) = true := by simp
  unfold isInstance
  repeat (first | with_reducible refine wpAny_loadPart_at hget ?_ | (with_reducible refine wpAny_isSubtype_exc hC₁ ?_; rw [hcC]) | wp_step)
  have X₁ := X.keeps k
  show wpAny _ _ (isSubtype (.ref C) (.ref C)) _ _ _
  refine wpAny_isSubtype_exc hC₁ ?_
  rw [hcC]
  repeat (first | with_reducible refine wpAny_loadPart_at hget ?_ | wp_step)
  show wpAny _ _ (typeLookup (.ref C) _) _ _ _
  refine (looks_findIn X₁ hi).at ?_
  have b1 : Looks (model prog w) _ (bindSpecial (.ref fI) (.ref (h.objs.size + 1))) (.ref fI, [.ref (h.objs.size + 1)]) := bind_fn X₁ (.ref (h.objs.size + 1)) (beq_iff_eq.mp hf)
  refine wpAny_holding (wpAny_bind (b1.at ?_))
  refine wpAny_bind (wpAny_call (codeAny_mono hq fun r s' z => ?_))
  rcases r with e | (v | _ | _ | _) <;> first | exact z | exact z.elim | skip
  obtain ⟨rfl, z⟩ := z
  exact wpAny_pure (wpAny_pure z)
end
end Mine
end
section
/-! Soundness, part 18: fields of an exception of the text's own class. -/
open PySem PySem.W PySem.Calls PyProof.Rows Builtin Builtin.ObjectAttr
set_option maxRecDepth 100000
set_option linter.unusedVariables false
set_option maxHeartbeats 4000000
namespace Mine

noncomputable def isRefV (v : Value) : Bool := match v with
  | .ref _ => true
  | _ => false
noncomputable def isTypeV (v : Value) (n : String) : Bool := match v with
  | .type a => a == n
  | _ => false
noncomputable def excTail (l : List Value) : Bool := match l with
  | a :: b :: c :: r => isTypeV a "Exception" && isTypeV b "BaseException" && isTypeV c "object" && r.isEmpty
  | _ => false
noncomputable def excMro : List Value → Bool
  | [] => false
  | a :: r => isRefV a && excMro r || excTail (a :: r)
theorem isRefV_inv {v : Value} (h : isRefV v = true) : ∃ x, v = .ref x := by
  cases v <;> first | exact ⟨_, rfl⟩ | exact nomatch h
theorem isTypeV_inv {v : Value} {n : String} (h : isTypeV v n = true) : v = .type n := by
  cases v <;> first | exact congrArg _ (beq_iff_eq.mp h) | exact nomatch h
theorem excMro_facts : ∀ {l : List Value}, excMro l = true → (∀ self, refuseLoop self "__setattr__" l = pure ()) ∧ l.contains (.type "object") = true ∧ l.isEmpty = false := fun {l} => by
  induction l with
  | nil => exact fun e => nomatch (show false = true from e)
  | cons a r ih =>
    intro e
    rcases Bool.or_eq_true_iff.mp (show (isRefV a && excMro r || excTail (a :: r)) = true from e) with e | e
    · obtain ⟨e1, e2⟩ := Bool.and_eq_true_iff.mp e
      obtain ⟨q1, q2, q3⟩ := ih e2
      obtain ⟨x, rfl⟩ := isRefV_inv e1
      exact ⟨fun self => by rw [refuseLoop_ref]; exact q1 self, by rw [List.contains_cons, q2, Bool.or_true], rfl⟩
    · rcases r with _ | ⟨b, _ | ⟨c, r⟩⟩
      · exact nomatch e
      · exact nomatch e
      · obtain ⟨e, e4⟩ := Bool.and_eq_true_iff.mp (show (isTypeV a "Exception" && isTypeV b "BaseException" && isTypeV c "object" && r.isEmpty) = true from e)
        obtain ⟨e, e3⟩ := Bool.and_eq_true_iff.mp e
        obtain ⟨e1, e2⟩ := Bool.and_eq_true_iff.mp e
        rw [isTypeV_inv e1, isTypeV_inv e2, isTypeV_inv e3, List.isEmpty_iff.mp e4]
        exact ⟨PySem.F.store_Exception.passes, by decide, rfl⟩

section
variable {prog : Program} {w : World} {A : Around} {E : Value → Shared → Prop} {s : Shared} {K : Frag} {C x : Addr} {name : Str} {v : Value}

theorem xs_open {ox : Obj} {od : Option Obj} {tk : Tok} {R : Result → Shared → Prop} {cd : ClassData} (X : K.In s.heap) (I : InstAt s.heap x ox C od) (hc : clsIn K C = some cd) (hm : excMro cd.mro = true) (ht : takerIn K C name = some none)
    (h : ∀ b, wpAny (model prog w) A.in1 (storeInOwnDict (.ref x) (.ref C) (.str name tk) name v b)
      (fun fin s' => match fin with | .done f => R (.ok f) s' | .again c' => c'.quiet = true ∧ codeAny (model prog w) A c' R s') (fun e s' => R (.error e) s') s) :
    codeAny (model prog w) A (.call (.builtin "object.__setattr__") ⟨[.ref x, .str name tk, v], []⟩) R s := by
  have SF := PySem.F.store_object
  obtain ⟨ho1, ho2, ne⟩ := excMro_facts hm
  have sub : Looks (model prog w) s.heap (isInstance (.ref x) (.type "object")) true := I.type.andThen (looks_mroIn X (by unfold mroIn; rw [hc, Option.bind_some, if_neg (by rw [ne]; decide), ho2]))
  refine codeAny_call_builtin SF.slot.plain SF.entry (@check_slot (model prog w) _ _ s "object.__setattr__" "object" "__setattr__" (.ref x) [.str name tk, v] [] _ SF.kind SF.split sub (SF.args (.ref x) (.str name tk) v) ?_)
  obtain ⟨attr, ha, hr⟩ := Option.bind_eq_some_iff.mp ht
  have hm' : Looks (model prog w) s.heap (mroOf (.ref C)) cd.mro := (looks_clsIn X hc).andThen .now
  have L3 : Looks (model prog w) s.heap (storeTaker? attr) none := by
    cases attr with
    | none => exact .now
    | some a =>
      obtain ⟨b, hb, hb'⟩ := Option.map_eq_some_iff.mp hr
      refine (looks_takesIn X hb).andThen ?_
      cases b
      · exact .now
      · cases hb'
  rw [osa_eq, refuse_eq]
  refine wpAny_bind (wpAny_bind (I.type.here (wpAny_bind (hm'.here ?_))))
  rw [ho1]
  refine wpAny_pure (wpAny_bind (I.type.here (wpAny_bind ((looks_findIn X ha).here (wpAny_bind (L3.here ?_))))))
  exact h _

/-- a dict by texts takes one more -/
theorem xs_dict {dx : Addr} {es : List DictEntry} {n : Nat} {tk : Tok} {Q : PySem.Fin → Shared → Prop} (hd : s.heap.get? dx = some (dictOf es n)) (hl : (W.getL name es).isSome = true) (hz : (putL name (PyData.keyHash w.params name) (.str name s.toks) v es).length ≤ 1000)
    (h : ∀ h', h'.get? dx = some (dictOf (putL name (PyData.keyHash w.params name) (.str name s.toks) v es) (putN name es n)) → Heap.SameBut dx s.heap h' → Q (.done (.ret .none)) { s with heap := h', toks := s.toks + 1 }) :
    wpAny (model prog w) A (storeInDict dx (.str name tk) name v) Q E s := by
  unfold storeInDict newKeyGuard
  refine wpAny_bind (wpAny_pure (wpAny_bind ?_))
  unfold nsSet
  refine wpAny_bind (wpAny_bind (wpAny_askSetting (wpAny_pure (wpAny_bind (wpAny_mkText (wpAny_bind (wpAny_loadPart hd ?_)))))))
  have c : (!es.toArray.any (·.key.isStr name) && es.toArray.any (·.refKey)) = false := by
    rw [← Array.any_toList, ← Array.any_toList]
    unfold W.getL at hl
    split at hl
    · rename_i en he
      rw [List.any_eq_true.mpr ⟨en, List.mem_of_find?_eq_some he, List.find?_some he⟩]; rfl
    · split at hl
      · cases hl
      · rename_i z; rw [Bool.not_eq_true] at z; rw [z, Bool.and_false]
  dsimp only
  rw [aRefKeyMayBeTheName_at, c]
  have e := putName_dict name (PyData.keyHash w.params name) (.str name s.toks) v es n
  have hu : (s.heap.update dx (Obj.putName name (PyData.keyHash w.params name) (.str name s.toks) v)).get? dx = some (dictOf (putL name (PyData.keyHash w.params name) (.str name s.toks) v es) (putN name es n)) := by
    have := Heap.get?_update_self (Obj.putName name (PyData.keyHash w.params name) (.str name s.toks) v) hd (by rw [e]; rfl)
    rw [e] at this
    exact this
  refine wpAny_updatePart hd ?_
  refine wpAny_bind (wpAny_lookBehind hu (pastItsLine_dict (by rw [List.size_toArray, sizeLine_eq]; omega)) ?_)
  exact wpAny_pure (h _ hu (Heap.SameBut.update ..))

/-- the first field: the dict is made -/
theorem xs_first {ox : Obj} {vs : Array Value} {Q : Unit → Shared → Prop} {cd : ClassData} (X : K.In s.heap) (hx : s.heap.get? x = some ox) (hcx : ox.cls = .ref C) (hdx : ox.dict = none) (hvs : ox.data = .fields vs) (hc : clsIn K C = some cd) (hm : excMro cd.mro = true) (ht : takerIn K C name = some none)
    (hs : findIn K (.ref C) "__setattr__" = some (some (.builtin "object.__setattr__"))) (hh : cd.hasDict = true) (h : ∀ h', h'.get? s.heap.objs.size = some (dictOf [⟨PyData.keyHash w.params name, .str name (s.toks + 1), v⟩] 1) → h'.get? x = some { ox with dict := some s.heap.objs.size } →
      (∀ b o, b ≠ x → s.heap.get? b = some o → h'.get? b = some o) → Q () { s with heap := h', toks := s.toks + 2 }) :
    wpAny (model prog w) A (setAttr (.ref x) name v) Q E s := by
  have I : InstAt s.heap x ox C none := ⟨hx, hcx, by unfold notCls; rw [hvs], by rw [hdx]; trivial⟩
  refine set_plain X I hs (xs_open (s := { s with toks := s.toks + 1 }) X I hc hm ht fun b => ?_)
  refine wpAny_bind (wpAny_pure (wpAny_bind ?_))
  obtain ⟨oc, odi, oda, osl⟩ := ox
  dsimp only at hcx hdx hvs
  subst hcx hdx hvs
  unfold ownDictForStores instanceDict
  refine wpAny_bind (wpAny_loadPart hx ?_)
  dsimp only
  refine wpAny_bind ((looks_clsIn X hc).at ?_)
  rw [hh]
  simp only [Bool.not_true, Bool.false_eq_true, if_false, typeHasDict, Bool.or_self]
  have hx₁ : (s.heap.push { cls := .type "dict", data := .dict #[] }).get? x = some { cls := .ref C, dict := none, data := .fields vs, slots := osl } := Heap.get?_push_of_some _ hx
  have hxs : x ≠ s.heap.objs.size := Nat.ne_of_lt (Heap.lt_size hx)
  refine wpAny_bind (wpAny_alloc' ?_)
  refine wpAny_bind (wpAny_update' hx₁ ?_)
  unfold dictMade
  refine wpAny_pure ?_
  have hd : ((s.heap.push { cls := .type "dict", data := .dict #[] }).update x fun o => { cls := o.cls, dict := some s.heap.objs.size, data := o.data, slots := o.slots }).get? s.heap.objs.size = some (dictOf [] 0) :=
    (Heap.get?_update_ne _ _ _ _ hxs.symm).trans (Heap.get?_push_at rfl rfl)
  show wpAny _ _ (storeInDict s.heap.objs.size (.str name _) name v) _ _ _
  refine xs_dict (s := { s with heap := _, toks := s.toks + 1 }) hd rfl (by simp [putL]) fun h' hd' hsb => ?_
  refine h h' hd' ?_ fun b o hb e => ?_
  · exact (hsb.2 x hxs).trans (Heap.get?_update_self _ hx₁ rfl)
  · exact (hsb.2 b (Nat.ne_of_lt (Heap.lt_size e))).trans ((Heap.get?_update_ne _ _ _ _ hb).trans (Heap.get?_push_of_some _ e))

/-- one more field -/
theorem xs_more {ox : Obj} {vs : Array Value} {dx : Addr} {es : List DictEntry} {n : Nat} {Q : Unit → Shared → Prop} {cd : ClassData} (X : K.In s.heap) (hx : s.heap.get? x = some ox) (hcx : ox.cls = .ref C) (hdx : ox.dict = some dx) (hvs : ox.data = .fields vs) (hd : s.heap.get? dx = some (dictOf es n))
    (hc : clsIn K C = some cd) (hm : excMro cd.mro = true) (ht : takerIn K C name = some none)
    (hs : findIn K (.ref C) "__setattr__" = some (some (.builtin "object.__setattr__"))) (hh : cd.hasDict = true) (hl : (W.getL name es).isSome = true) (hz : (putL name (PyData.keyHash w.params name) (.str name (s.toks + 1)) v es).length ≤ 1000)
    (h : ∀ h', h'.get? dx = some (dictOf (putL name (PyData.keyHash w.params name) (.str name (s.toks + 1)) v es) (putN name es n)) → Heap.SameBut dx s.heap h' → Q () { s with heap := h', toks := s.toks + 2 }) :
    wpAny (model prog w) A (setAttr (.ref x) name v) Q E s := by
  have I : InstAt s.heap x ox C (some (dictOf es n)) := ⟨hx, hcx, by unfold notCls; rw [hvs], by rw [hdx]; exact hd⟩
  refine set_plain X I hs (xs_open (s := { s with toks := s.toks + 1 }) X I hc hm ht fun b => ?_)
  refine wpAny_bind (wpAny_pure (wpAny_bind ?_))
  obtain ⟨oc, odi, oda, osl⟩ := ox
  dsimp only at hcx hdx hvs
  subst hcx hdx hvs
  unfold ownDictForStores instanceDict
  refine wpAny_bind (wpAny_loadPart hx ?_)
  dsimp only
  refine wpAny_bind ((looks_clsIn X hc).at ?_)
  rw [hh]
  refine wpAny_pure (a := some dx) ?_
  exact xs_dict (s := { s with toks := s.toks + 1 }) hd hl hz h
end
end Mine
end
section
/-! Soundness, part 19: super() within the exceptions' __init__, the built-in one behind it. -/
open PySem PySem.W PySem.Calls PyProof.Rows
set_option maxRecDepth 100000
set_option linter.unusedVariables false
set_option maxHeartbeats 4000000
namespace Mine

noncomputable abbrev mwObj (x : Addr) : Obj := { cls := .type "method-wrapper", dict := none, data := .fields #[.builtin "Exception.__init__", .ref x], slots := #[] }
theorem mw_slot_get : Slot "wrapper_descriptor" "__get__" "wrapper_descriptor.__get__" := .of (owner := "wrapper_descriptor") (n := "__get__") (by rw [typeLookup_type, builtinLookup_eq_fast]; kernel_rfl) (by decide +kernel) (by decide +kernel) (by decide +kernel)
  (by first | exact .inl (by decide +kernel) | exact .inr (by decide +kernel)) (by rw [isSubtype_type]; kernel_rfl)
theorem mw_entry_get : entryFor table "wrapper_descriptor.__get__" = some Builtin.«wrapper_descriptor.__get__» := entryFor_of_tree (by kernel_rfl)
theorem mw_getArgs (a b c : Value) : argsOk "wrapper_descriptor.__get__" ⟨[a, b, c], []⟩ := by unfold argsOk; kernel_rfl
theorem mw_type : typeOf (.builtin "Exception.__init__") = pure (.type "wrapper_descriptor") := by show builtinType _ = _; rw [builtinType_eq_fast]; kernel_rfl

section
variable {prog : Program} {w : World} {M : Model} {A : Around} {E : Value → Shared → Prop} {h : Heap} {g : Array GenState} {d : Drawn} {t : Nat} {os : OsState}

theorem mw_get {x C : Addr} {ox : Obj} {Q : PySem.Fin → Shared → Prop} (hx : h.get? x = some ox) (hc : ox.cls = .ref C) (hs : Looks (model prog w) h (isSubtype (.ref C) (.type "Exception")) true)
    (hq : Q (.done (.ret (.ref h.objs.size))) ⟨h.push (mwObj x), g, d, t, os⟩) :
    wpAny (model prog w) A (Builtin.«wrapper_descriptor.__get__» ⟨[.builtin "Exception.__init__", .ref x, .ref C], []⟩) Q E ⟨h, g, d, t, os⟩ := by
  have hT : Looks (model prog w) h (typeOf (.ref x)) (.ref C) := (Looks.ld hx).andThen (by rw [hc]; exact .now)
  unfold Builtin.«wrapper_descriptor.__get__»
  repeat (first | (with_reducible refine wpAny_loadPart_at hx ?_; rw [hc]) | (with_reducible refine hs.at ?_) | (with_reducible refine wpAny_newObj_type ?_ (by size_fits)) | wp_step)
  have eo : ".".intercalate ("Exception.__init__".cutAt '.').dropLast = "Exception" := by decide +kernel
  rw [eo]
  refine hs.at ?_
  refine wpAny_pure (wpAny_bind ?_)
  unfold newFields
  refine wpAny_newObj_type ?_ (by size_fits)
  exact wpAny_pure hq

theorem mw_super_ga {so D x C : Addr} {ox : Obj} {l₀ l : List Value} {K : Frag} {tk : Tok} {Q : PySem.Fin → Shared → Prop}
    (hso : h.get? so = some { cls := .type "super", dict := none, data := .fields #[.ref D, .ref x, .ref C], slots := #[] }) (hno : Looks (model prog w) h (opaqueClassAbove (.ref C)) none)
    (hC : Looks (model prog w) h (mroOf (.ref C)) l₀) (hl : (l₀.dropWhile (· != .ref D)).drop 1 = l) (X : K.In h) (hx : h.get? x = some ox) (hc : ox.cls = .ref C) (hs : Looks (model prog w) h (isSubtype (.ref C) (.type "Exception")) true)
    (hf : alongIn K "__init__" l = some (some (.builtin "Exception.__init__"))) (hxC : x ≠ C)
    (hq : Q (.done (.ret (.ref h.objs.size))) ⟨h.push (mwObj x), g, d, t, os⟩) :
    wpAny (model prog w) A (Builtin.«super.__getattribute__» ⟨[.ref so, .str "__init__" tk], []⟩) Q E ⟨h, g, d, t, os⟩ := by
  have hlk := mw_slot_get.lookup
  have hne : (Value.ref x == Value.ref C) = false := by simp [hxC]
  have hn : (("__init__" : Str) == ("__class__" : Str)) = false := by decide
  have hTf : (⟨h, g, d, t, os⟩ : Shared).TypeIs (.builtin "Exception.__init__") "wrapper_descriptor" := mw_type
  have hdt : ({ cls := .type "super", dict := none, data := .fields #[.ref D, .ref x, .ref C], slots := #[] } : Obj).data = .fields #[.ref D, .ref x, .ref C] := rfl
  have f0 : (#[.ref D, .ref x, .ref C] : Array Value)[0]? = some (.ref D) := rfl
  have f1 : (#[.ref D, .ref x, .ref C] : Array Value)[1]? = some (.ref x) := rfl
  have f2 : (#[.ref D, .ref x, .ref C] : Array Value)[2]? = some (.ref C) := rfl
  unfold Builtin.«super.__getattribute__»
  repeat (first
    | (with_reducible refine wpAny_field hso hdt f0 ?_) | (with_reducible refine wpAny_field hso hdt f1 ?_) | (with_reducible refine wpAny_field hso hdt f2 ?_)
    | (with_reducible refine ks_wpAny_notOpaque hno ?_)
    | (with_reducible refine Looks.at hC ?_; rw [hl])
    | (refine ks_forIn_along X (fun _ _ => rfl) rfl ?_ hf)
    | (with_reducible refine wpAny_typeOf hTf ?_)
    | (with_reducible refine wpAny_call_entry mw_slot_get hTf mw_entry_get ?_ (mw_getArgs _ _ _))
    | (with_reducible refine mw_get hx hc hs ?_)
    | (with_reducible refine ⟨_, rfl, ?_⟩)
    | (simp only [hn, hne, Bool.or_false, Bool.false_eq_true, if_false])
    | wp_step
    | dsimp only)
  all_goals exact hq

theorem mw_getMethod {so D x C : Addr} {ox : Obj} {l₀ l : List Value} {K : Frag} {pl : Sem Bool} {Q : Value × List Value → Shared → Prop}
    (hso : h.get? so = some { cls := .type "super", dict := none, data := .fields #[.ref D, .ref x, .ref C], slots := #[] }) (hno : Looks (model prog w) h (opaqueClassAbove (.ref C)) none)
    (hC : Looks (model prog w) h (mroOf (.ref C)) l₀) (hl : (l₀.dropWhile (· != .ref D)).drop 1 = l) (X : K.In h) (hx : h.get? x = some ox) (hc : ox.cls = .ref C) (hs : Looks (model prog w) h (isSubtype (.ref C) (.type "Exception")) true)
    (hf : alongIn K "__init__" l = some (some (.builtin "Exception.__init__"))) (hxC : x ≠ C)
    (hq : Q (.ref h.objs.size, []) ⟨h.push (mwObj x), g, d, t + 1, os⟩) :
    wpAny (model prog w) A (getMethod (.ref so) "__init__" pl) Q E ⟨h, g, d, t, os⟩ := by
  have hlk := PySem.F.ks_slot_super_ga.lookup
  have hcan := PySem.F.ks_canon_super_ga
  have hT : ∀ t', (⟨h, g, d, t', os⟩ : Shared).TypeIs (.ref so) "super" := fun _ => ⟨_, hso, rfl⟩
  unfold getMethod
  refine wpAny_bind (wpAny_specialOf (hT _) hlk ?_)
  show wpAny _ _ (if (Manifest.canonical "super.__getattribute__" != "object.__getattribute__") = true then _ else _) _ _ _
  rw [if_pos hcan]
  unfold getAttr getAttrBy
  refine wpAny_bind (wpAny_bind (wpAny_mkText (wpAny_holding (wpAny_bind (wpAny_typeOf (hT _) (wpAny_bind (wpAny_of_eq hlk ?_)))))))
  show wpAny _ _ (getAttrByItsOwn (.ref so) (.str "__init__" t) (.type "super") (.builtin "super.__getattribute__") true false) _ _ _
  unfold getAttrByItsOwn hookBefore callGetattribute boundAndCalled
  refine wpAny_bind (wpAny_of_eq (show (if onTheHeap (.type "super") then typeLookup (.type "super") "__getattr__" else pure none) = pure none from rfl) ?_)
  refine wpAny_bind (wpAny_attempt (wpAny_holding ?_))
  show wpAny _ _ (bindSpecial (.builtin "super.__getattribute__") (.ref so) >>= _) _ _ _
  refine wpAny_bind (wpAny_of_eq (PySem.F.ks_slot_super_ga.bind _) ?_)
  refine wpAny_mono (Q := fun v s' => v = .ref h.objs.size ∧ s' = ⟨h.push (mwObj x), g, d, t + 1, os⟩) (E := fun _ _ => False)
    (wpAny_call_entry PySem.F.ks_slot_super_ga (hT _) PySem.F.ks_entry_super_ga (mw_super_ga hso hno hC hl X hx hc hs hf hxC ⟨_, rfl, rfl, rfl⟩) (PySem.F.ks_gaArgs_super _ _)) (fun v s' hv => ?_) fun _ _ z => z.elim
  obtain ⟨rfl, rfl⟩ := hv
  exact wpAny_pure (wpAny_pure hq)

/-- the bound built-in __init__ is called: the object's args are laid anew -/
theorem mw_call {q x C t0 : Addr} {ox : Obj} {vs : Array Value} {rest : List Value} {Q : Value → Shared → Prop} {cd : ClassData} {K : Frag} (X : K.In h) (hcC : clsIn K C = some cd)
    (hq : h.get? q = some (mwObj x)) (hx : h.get? x = some ox) (hc : ox.cls = .ref C) (hd : ox.data = .fields vs) (h0 : vs[0]? = some (.ref t0)) (hrest : rest.length ≤ sizeLine)
    (k : Q .none ⟨(h.push { cls := .type "tuple", data := .seq rest.toArray }).update x (Obj.mapFields (·.setIfInBounds 0 (.ref h.objs.size))), g, d, t, os⟩) :
    wpAny (model prog w) A (call (.ref q) rest) Q E ⟨h, g, d, t, os⟩ := by
  have F := PySem.F.excBase_Exception
  have hshort := F.noStar
  refine wpAny_call (codeAny_of_tree ?_)
  show wpAny _ _ (callAny (.ref q) ⟨rest, []⟩) _ _ _
  refine nd_load hq ?_
  show wpAny _ _ (do checkBoundCall "Exception.__init__" ⟨.ref x :: rest, []⟩; again (.builtin "Exception.__init__" ⟨.ref x :: rest, []⟩)) _ _ _
  have hcd := looks_clsIn (M := model prog w) X hcC
  refine wpAny_bind ?_
  · simp only [checkBoundCall, F.initKind, F.initRow]
    repeat (first | (with_reducible refine wpAny_loadPart_at hx ?_; rw [hc]) | with_reducible refine hcd.at ?_ | wp_step)
    refine wpAny_onRaise ?_
    rw [show ∀ (a b : String) (n : Nat), Bind.check ⟨.positional, "*", "Exception", .self, [⟨"args", .varPos, false⟩]⟩ a b n (List.map (fun x => x.fst) ({ pos := Value.ref x :: rest } : Args).kw) = pure () from
      fun a b n => check_star_args _ _ _ _ _ _]
    refine wpAny_pure (wpAny_pure ⟨Code.quiet_builtin _ (by decide +kernel), codeAny_builtin F.initEntry ?_⟩)
    unfold Builtin.«BaseException.__init__»
    dsimp only
    rw [if_neg (by simp)]
    unfold newTuple Builtin.BaseException.bexcPut
    have hsz : 0 < vs.size := (Array.getElem?_eq_some_iff.mp h0).1
    have he₁ := Heap.get?_push_of_some (h := h) { cls := .type "tuple", data := .seq rest.toArray } hx
    refine wpAny_bind (wpAny_newObj_type (wpAny_bind (wpAny_bind (wpAny_field he₁ hd h0 (wpAny_bind (wpAny_setField he₁ hd hsz ?_))))) (by show rest.toArray.size ≤ sizeLine; rw [List.size_toArray]; exact hrest))
    exact wpAny_letGo (wpAny_pure k)
end
end Mine
end
section
/-! Soundness, part 20: the exceptions' own __init__. -/
open PySem PySem.W PySem.Calls PyProof.Rows
set_option maxRecDepth 100000
set_option linter.unusedVariables false
set_option maxHeartbeats 4000000
namespace Mine

noncomputable def initShape (b : List Stmt) (fld : String) : Bool := k2 b fun s r =>
  (kSExpr s fun x => kCallM x fun ob i es => (kCallN ob fun sp l => sp == Str.ofString "super" && l.isEmpty) && i == Str.ofString "__init__" && k1 es fun w => kName w (· == Str.ofString "what")) &&
  kSAsg r fun y v => kFld y "self" fld && kName v (· == Str.ofString fld)
theorem initShape_inv {b : List Stmt} {fld : String} (h : initShape b fld = true) : ∃ p1 p2 apos whp pos p5 sep p6 fvp p7, b = [.Expr (.Call (.Attribute (.Call (.Name (Str.ofString "super") p1) [] [] p2) (Str.ofString "__init__") apos) [.Name (Str.ofString "what") whp] [] pos) p5, .Assign [.Attribute (.Name (Str.ofString "self") sep) (Str.ofString fld) p6] (.Name (Str.ofString fld) fvp) p7] ∧ (apos.endLine == pos.line) = true := by
  replace h := k2_inv h
  obtain ⟨s, r, rfl, h⟩ := h
  replace h := and2 h
  obtain ⟨h, g⟩ := h
  replace g := kSAsg_inv g
  obtain ⟨y, v, p7, rfl, g⟩ := g
  replace g := and2 g
  obtain ⟨g, g2⟩ := g
  replace g := kFld_inv g
  obtain ⟨sep, p6, rfl⟩ := g
  replace g2 := kName_inv g2
  obtain ⟨_, fvp, rfl, g2⟩ := g2
  replace g2 := beq_iff_eq.mp g2
  obtain rfl := g2
  replace h := kSExpr_inv h
  obtain ⟨x, p5, rfl, h⟩ := h
  replace h := kCallM_inv h
  obtain ⟨ob, i, apos, es, pos, rfl, hp, h⟩ := h
  replace h := and2 h
  obtain ⟨h, h1⟩ := h
  replace h := and2 h
  obtain ⟨h, h2⟩ := h
  replace h2 := beq_iff_eq.mp h2
  obtain rfl := h2
  replace h1 := k1_inv h1
  obtain ⟨w, rfl, h1⟩ := h1
  replace h1 := kName_inv h1
  obtain ⟨_, whp, rfl, h1⟩ := h1
  replace h1 := beq_iff_eq.mp h1
  obtain rfl := h1
  replace h := kCallN_inv h
  obtain ⟨sp, p1, l, p2, rfl, h⟩ := h
  replace h := and2 h
  obtain ⟨h, h3⟩ := h
  replace h := beq_iff_eq.mp h
  obtain rfl := h
  replace h3 := isEmpty_inv h3
  obtain rfl := h3
  exact ⟨p1, p2, apos, whp, pos, p5, sep, p6, fvp, p7, rfl, hp⟩

noncomputable def vFields : (o : Option Obj) → Option {q : Value × Option Addr × Array Value × Array (Option Value) // o = some ⟨q.1, q.2.1, .fields q.2.2.1, q.2.2.2⟩}
  | some ⟨a, b, .fields vs, s⟩ => some ⟨(a, b, vs, s), rfl⟩
  | _ => none
noncomputable def vCell : (o : Option Obj) → Option {q : Value × Option Addr × Addr × Array (Option Value) // o = some ⟨q.1, q.2.1, .cell (some (.ref q.2.2.1)), q.2.2.2⟩}
  | some ⟨a, b, .cell (some (.ref D)), s⟩ => some ⟨(a, b, D, s), rfl⟩
  | _ => none
noncomputable def vStr : (o : Option Value) → Option {q : Str × Tok // o = some (.str q.1 q.2)}
  | some (.str f t) => some ⟨(f, t), rfl⟩
  | _ => none
noncomputable def vRef : (o : Value) → Option {q : Addr // o = .ref q}
  | .ref f => some ⟨f, rfl⟩
  | _ => none

/-- an own __init__ whose first word is super().__init__(what), whose second is self.fld = fld -/
noncomputable def initOk (K : Frag) (file : Str) (fi D : Addr) (fld : String) (params : List String) : Bool := kFun (K.lookup fi) fun fd b =>
    codeIn K fd.code fd.qualname && fd.params.args.map (·.arg) == params.map Str.ofString && fd.scope.kind == .function && !fd.scope.isGenerator && !fd.scope.isCoroutine &&
      fd.scope.names.all (fun x => x.2 != .cell) && params.all (fun x => fd.scope.names.lookup (Str.ofString x) == some .local) && fd.scope.names.lookup (Str.ofString "super") == some .globalImplicit && fd.scope.names.lookup (Str.ofString "__class__") == some .free &&
      initShape b fld && (vok (vRef fd.code) fun cda => vok (vFields (K.lookup cda)) fun q => vok (vStr q.2.2.1[2]?) fun r => file == r.1) &&
      (k1 fd.closure fun p => p.1 == Str.ofString "__class__" && vok (vCell (K.lookup p.2)) fun q => q.2.2.1 == D) && (clsIn K D).isSome

structure InitAt (c : FC) (fi D : Addr) (fld : String) (params : List String) (qn : Str) (sc : Scope) (cda cc : Addr) (b : List Stmt) : Prop where
  at_ : ∃ oc od osl nm as kd dc pm an ct, c.K.lookup fi = some ⟨oc, od, .func (ksFn nm qn ⟨[], as, none, [], [], none, []⟩ b sc .none kd dc pm an (.ref cda) ct cc), osl⟩ ∧ as.map (·.arg) = params.map S
  code : codeIn c.K (.ref cda) qn = true
  kind : sc.kind = .function
  gen : sc.isGenerator = false
  cor : sc.isCoroutine = false
  cell : ∀ x ∈ sc.names, x.2 ≠ .cell
  loc : ∀ x ∈ params, sc.names.lookup (S x) = some .local
  sup : sc.names.lookup (S "super") = some .globalImplicit
  cls : sc.names.lookup (S "__class__") = some .free
  shape : initShape b fld = true
  file : ∃ ccl cdd vs ccs file tf, c.K.lookup cda = some ⟨ccl, cdd, .fields vs, ccs⟩ ∧ vs[2]? = some (.str file tf) ∧ ((c.prog.main.file : Str) == file) = true
  held : ∃ cl cld csl, c.K.lookup cc = some ⟨cl, cld, .cell (some (.ref D)), csl⟩
  isCls : ∃ cd, clsIn c.K D = some cd
theorem initAt_of {c : FC} {fi D : Addr} {fld : String} {params : List String} (h : initOk c.K c.prog.main.file fi D fld params = true) : ∃ qn sc cda cc b, InitAt c fi D fld params qn sc cda cc b := by
  obtain ⟨oc, od, osl, fd, b, ho, h⟩ := kFun_inv h
  replace h := and2 h
  obtain ⟨h, h16⟩ := h
  replace h := and2 h
  obtain ⟨h, h15⟩ := h
  replace h := and2 h
  obtain ⟨h, h14⟩ := h
  replace h := and2 h
  obtain ⟨h, h13⟩ := h
  replace h := and2 h
  obtain ⟨h, h12⟩ := h
  replace h := and2 h
  obtain ⟨h, h11⟩ := h
  replace h := and2 h
  obtain ⟨h, h10⟩ := h
  replace h := and2 h
  obtain ⟨h, h9⟩ := h
  replace h := and2 h
  obtain ⟨h, h8⟩ := h
  replace h := and2 h
  obtain ⟨h, h7⟩ := h
  replace h := and2 h
  obtain ⟨h, h6⟩ := h
  replace h := and2 h
  obtain ⟨h4, h5⟩ := h
  replace h15 := k1_inv h15
  obtain ⟨⟨cn, cc⟩, hcl, h15⟩ := h15
  replace h15 := and2 h15
  obtain ⟨h1, h15⟩ := h15
  replace h1 := beq_iff_eq.mp h1
  obtain rfl : cn = _ := h1
  obtain ⟨⟨_, _, D', _⟩, hq, h15⟩ := vok_inv h15
  replace h15 := beq_iff_eq.mp h15
  obtain rfl : D' = D := h15
  obtain ⟨cda, hcd, h14⟩ := vok_inv h14
  obtain ⟨⟨_, _, vs, _⟩, hv, h14⟩ := vok_inv h14
  obtain ⟨⟨fl, tf⟩, hf, h14⟩ := vok_inv h14
  rw [hcl, hcd] at ho
  rw [hcd] at h4
  exact ⟨_, _, cda, cc, b, ⟨_, _, _, _, _, _, _, _, _, _, ho, beq_iff_eq.mp h5⟩, h4, beq_iff_eq.mp h6, not_inv h7, not_inv h8, fun x hx => bne_iff_ne.mp (List.all_eq_true.mp h9 x hx), fun x hx => beq_iff_eq.mp (List.all_eq_true.mp h10 x hx),
    beq_iff_eq.mp h11, beq_iff_eq.mp h12, h13, ⟨_, _, vs, _, fl, tf, hv, hf, h14⟩, ⟨_, _, _, hq⟩, Option.isSome_iff_exists.mp h16⟩

/-- what is asked of the exceptions' classes -/
structure XcOk (c : FC) (fF fS FE SF : Addr) : Prop where
  tf : ∃ nm q N bs bm hdct sn sub ab col dd k0 k1 k2 k3 k5, c.K.lookup c.TF = some (excClassObj nm q c.TF N bs bm hdct sn sub ab col dd k0 k1 k2 k3 k5 "Exception.__new__") ∧ ExcTail bm
  cd : ∃ cd, clsIn c.K c.TF = some cd ∧ excMro cd.mro = true ∧ cd.hasDict = true
  setattr : findIn c.K (.ref c.TF) "__setattr__" = some (some (.builtin "object.__setattr__"))
  what : takerIn c.K c.TF (S "what") = some none
  spot : takerIn c.K c.TF (S "spot") = some none
  sub : mroIn c.K c.TF (.type "Exception") = some true
  subB : mroIn c.K c.TF (.type "BaseException") = some true
  fe : mroIn c.K c.TF (.ref FE) = some true
  sf : mroIn c.K c.TF (.ref SF) = some true
  opaque_ : nsIn c.K cStatics "thirdparty.any" = some none
  super_ : nsIn c.K mainGlobals "super" = some none
  noTop : (c.prog.main.scope.names.lookup ("super" : Str)).isSome = false
  supF : ks_superIn c.K c.TF FE "__init__" = some (some (.builtin "Exception.__init__"))
  supS : ks_superIn c.K c.TF SF "__init__" = some (some (.ref fF))
  init : findIn c.K (.ref c.TF) "__init__" = some (some (.ref fS))
  isF : isFn c.K (.ref fF) = true
  isS : isFn c.K (.ref fS) = true
  fnF : fnIn c.K fF = true
  name : nsIn c.K mainGlobals (S "TextFault") = some (some (.ref c.TF))
  keep : keepIn c.K (.ref c.TF) = true
  initF : initOk c.K c.prog.main.file fF FE "what" ["self", "what"] = true
  initS : initOk c.K c.prog.main.file fS SF "spot" ["self", "what", "spot"] = true

section
variable {c : FC} {A : Around} {s : Shared} {fi D x : Addr} {fld : String} {params : List String} {qn : Str} {sc : Scope} {cda cc : Addr} {b : List Stmt}

theorem superCall_eq {o : PySem.Expr} {name : Str} {apos pos : Pos} {args : List PySem.Expr} {env : Env} (hp : ∀ x ∈ args, plainE x = true) (hn : args.length ≤ 20) (hpos : (apos.endLine == pos.line) = true) :
    eval (.Call (.Attribute o name apos) args [] pos) env = (do
      let ov ← attributeBase o name env (eval o env)
      standAt apos.atName
      let (f, first) ← holding [ov] (getMethod ov name (do return (← importBound o env).getD true))
      callWith pos f first (backTo pos (starEach args env)) []) := by
  show (do
    let ov ← attributeBase o name env (eval o env)
    standAt apos.atName
    methodCall o name apos pos env ov (args.length + 0) (backTo pos (starEach args env)) []) = _
  have hf : methodCallForm (args.length + 0) (backTo pos (starEach args env)) [] = true := by
    unfold methodCallForm
    rw [star_all hp]
    simp
    omega
  unfold methodCall
  simp only [hf, calleeOf, methodCallPos, hpos, Bool.not_true, Bool.false_or, if_true]
  rfl

/-- into an own __init__, up to the bound method of the class above -/
theorem init_pre (D_ : InitAt c fi D fld params qn sc cda cc b) (X : c.K.In s.heap) (T : TopRead c.p c.loose c.mg c.mb s.heap) (hsuper : nsIn c.K mainGlobals "super" = some none) (htop : (c.prog.main.scope.names.lookup ("super" : Str)).isSome = false) (hsub : mroIn c.K c.TF (.ref D) = some true)
    {ox : Obj} (hx : s.heap.get? x = some ox) (hcx : ox.cls = .ref c.TF) (hnc : ∀ c, ox.data ≠ .cls c) {us : List Value} (hps : params.head? = some "self") (hus : us.head? = some (.ref x)) (hlen : params.length = us.length) (hnd : params.Nodup) (hroom : A.depth + 2 < recursionLimit) {R : Result → Shared → Prop}
    (next : ∀ h₂ tk so p1 p2 p4 whp sep p6 fvp p7,
      h₂.Ns s.heap.objs.size (fun y => ((params.map S).zip us).reverse.lookup y) → (∀ b o, s.heap.get? b = some o → h₂.get? b = some o) → h₂.get? so = some (ks_superObj D x c.TF) → s.heap.objs.size < so →
      wpAny (model c.prog c.w) (A.deeper (ksEnv qn sc s.heap.objs.size fi (.ref cda) cc)) (getMethod (.ref so) "__init__" (do return (← importBound (.Call (.Name (S "super") p1) [] [] p2) (ksEnv qn sc s.heap.objs.size fi (.ref cda) cc)).getD true))
        (fun fx s₂ => wpAny (model c.prog c.w) (A.deeper (ksEnv qn sc s.heap.objs.size fi (.ref cda) cc)) (callWith p4 fx.1 fx.2 (backTo p4 (starEach [.Name (S "what") whp] (ksEnv qn sc s.heap.objs.size fi (.ref cda) cc))) [])
          (fun _ s₃ => wpAny (model c.prog c.w) (A.deeper (ksEnv qn sc s.heap.objs.size fi (.ref cda) cc)) (execs [.Assign [.Attribute (.Name (S "self") sep) (S fld) p6] (.Name (S fld) fvp) p7] (ksEnv qn sc s.heap.objs.size fi (.ref cda) cc))
            (fun fl s' => R (.ok (.ret (match fl with | .ret v => v | _ => .none))) s') (fun _ _ => False) s₃) (fun _ _ => False) s₂) (fun _ _ => False) { s with heap := h₂, toks := tk }) :
    codeAny (model c.prog c.w) A (.call (.ref fi) ⟨us, []⟩) R s := by
  obtain ⟨oc, od, osl, nm, as, kd, dc, pm, an, ct, ho, has⟩ := D_.at_
  obtain ⟨ccl, cdd, vs, ccs, file, tf, hcda, hvs, hfile⟩ := D_.file
  obtain ⟨cl, cld, csl, hcc⟩ := D_.held
  obtain ⟨cdD, hcdD⟩ := D_.isCls
  have hlen' : as.length = us.length := by rw [← hlen, ← List.length_map (f := S), ← has, List.length_map]
  have nds : (params.map S).Nodup := nodup_S hnd
  obtain ⟨oD, hD1, hD2⟩ : ∃ oD, s.heap.get? D = some oD ∧ oD.data = .cls cdD := by
    unfold clsIn at hcdD
    split at hcdD
    · rename_i c d cd' sl ho
      cases hcdD
      exact ⟨_, X _ _ ho, rfl⟩
    · cases hcdD
  refine ks_codeAny_call_defAt (fd := ksFn nm qn ⟨[], as, none, [], [], none, []⟩ b sc .none kd dc pm an (.ref cda) ct cc) (body := b) (binds := (params.map S).zip us) (by omega) (X _ _ ho) rfl T.nolimit (codeRec_of X D_.code) rfl
    (BindsTo.of_eq (by rw [← has]; exact bindArgs_pos rfl rfl (by rw [has]; exact nds) hlen')) D_.cell (fun y hy => ?_) (fun h₁ hns hk => ?_) D_.cor D_.gen D_.kind
  · obtain ⟨z, hz, e⟩ := List.mem_map.mp (List.of_mem_zip (a := y.1) (b := y.2) hy).1
    rw [← e]; exact D_.loc z hz
  have hsh := D_.shape
  replace hsh := initShape_inv hsh
  · obtain ⟨p1, p2, apos, whp, pos, p5, sep, p6, fvp, p7, rfl, hpos⟩ := hsh
    have has0 : ∃ ar r, as = ar :: r ∧ ar.arg = S "self" := by
      cases as with
      | nil => cases params with
        | nil => cases hps
        | cons a r => simp at has
      | cons ar r => cases params with
        | nil => cases hps
        | cons a r' =>
          simp only [List.head?_cons, Option.some.injEq] at hps
          subst hps
          simp only [List.map_cons, List.cons.injEq] at has
          exact ⟨ar, r, rfl, has.1⟩
    obtain ⟨ar, ar', rfl, har⟩ := has0
    have hself : ((params.map S).zip us).reverse.lookup ar.arg = some (.ref x) := by
      rw [har]
      have hzip : ((params.map S).zip us).map (·.1) = params.map S := by
        rw [List.map_fst_zip]
        rw [List.length_map, hlen]
        exact Nat.le_refl _
      refine lookup_rev (by rw [hzip]; exact nds) ?_
      cases params with
      | nil => cases hps
      | cons a r =>
        cases us with
        | nil => cases hus
        | cons u r' =>
          simp only [List.head?_cons, Option.some.injEq] at hps hus
          subst hps hus
          exact .head _
    have X₁ := X.keeps hk
    have T₁ := T.keeps hk
    refine ks_wpAt_execs_cons (ks_wpAt_Expr_any (ks_wpAt_MethodCall ?_ (superCall_eq (fun y hy => by rw [List.mem_singleton] at hy; subst hy; rfl) (by simp) hpos)) (by show (sc.kind == .module && _) = false; rw [D_.kind]; rfl) rfl)
    refine ks_wpAt_super_base (env := ksEnv qn sc s.heap.objs.size fi (.ref cda) cc) D_.sup D_.cls (by decide) rfl (X₁ _ _ ho) rfl (ar := ar) rfl rfl (X₁ _ _ hcda) rfl hvs hfile htop ?_
    refine ks_loadName_global D_.kind D_.sup (loadGlobal_builtin (env := ksEnv qn sc s.heap.objs.size fi (.ref cda) cc) T₁.g (mg_none_of X T.g hsuper) T₁.b ((T.builtins _ (by decide +kernel)).trans PyProof.Rows.Boot.«super») ⟨rfl, ?_⟩)
    refine wpAny_loadName_free D_.kind D_.cls rfl ⟨_, X₁ _ _ hcc, rfl⟩ ?_
    refine wpAny_loadName_local D_.kind (by show sc.names.lookup ar.arg = _; rw [har]; exact D_.loc "self" (by cases params with
      | nil => cases hps
      | cons a r => simp only [List.head?_cons, Option.some.injEq] at hps; subst hps; exact .head _)) hns hself ?_
    refine ks_wpAny_isType_cls (hk _ _ hD1) hD2 ⟨rfl, ?_⟩
    refine ks_wpAny_call_super (hk _ _ hD1) hD2 (hk _ _ hx) hcx hnc (looks_mroIn X₁ hsub) fun h' e k => ?_
    have L1 : s.heap.objs.size < h₁.objs.size := by
      obtain ⟨o, _, _, hoL, _⟩ := hns
      exact Heap.lt_size hoL
    refine wpAny_mono (next h' (s.toks + ((params.map S).zip us).length) h₁.objs.size p1 p2 pos whp sep p6 fvp p7 (hns.keeps k) (fun b o e => k _ _ (hk b o e)) e L1) (fun fx s₂ h₂ => ?_) fun _ _ z => z.elim
    refine wpAny_mono h₂ (fun v s₃ h₃ => ?_) fun _ _ z => z.elim
    exact PySem.wpAt_of_wpAny (wpAny_mono h₃ (fun _ _ z => z) fun _ _ z => z.elim)

theorem name_at {env : Env} {M : Model} {y : Str} {p : Pos} {m : Str → Option Value} {v : Value} {Q : Value → Shared → Prop} {E : Value → Shared → Prop} (hk : env.scope.kind = .function) (hl : env.kindOf y = some .local) (hn : s.heap.Ns env.locals m) (hv : m y = some v) (hd : (y == ("__debug__" : Str)) = false) (h : Q v s) :
    wpAny M A (eval (.Name y p) env) Q E s := wpAny_Name (wpAny_loadName_local hk hl hn hv h) hd

noncomputable abbrev ent (P : Params) (x : String) (k : Tok) (v : Value) : DictEntry := ⟨PyData.keyHash P (S x), .str (S x) k, v⟩
/-- the exception object with its dict -/
noncomputable def ExcSt (h : Heap) (TF x de : Addr) (es : List DictEntry) (n : Nat) : Prop := ∃ oe vs, h.get? x = some oe ∧ oe.cls = .ref TF ∧ oe.dict = some de ∧ oe.data = .fields vs ∧ 1 < vs.size ∧ vs[1]? = some .none ∧ h.get? de = some (dictOf es n)

theorem fd_init {fF fS FE SF : Addr} (xc : XcOk c fF fS FE SF) (hxK : c.K.lookup x = none) (X : c.K.In s.heap) (T : TopRead c.p c.loose c.mg c.mb s.heap) {ox : Obj} {vs : Array Value} {t0 : Addr} {v : Value} (hx : s.heap.get? x = some ox) (hcx : ox.cls = .ref c.TF) (hdx : ox.dict = none) (hvs : ox.data = .fields vs) (h0 : vs[0]? = some (.ref t0)) (h1 : vs[1]? = some .none)
    (hroom : A.depth + 2 < recursionLimit) {R : Result → Shared → Prop} (h : ∀ h' tk de k, ExcSt h' c.TF x de [ent c.w.params "what" k v] 1 → s.heap.get? de = none → (∀ b o, b ≠ x → s.heap.get? b = some o → h'.get? b = some o) → R (.ok (.ret .none)) { s with heap := h', toks := tk }) :
    codeAny (model c.prog c.w) A (.call (.ref fF) ⟨[.ref x, v], []⟩) R s := by
  obtain ⟨qn, sc, cda, cc, b, D⟩ := initAt_of xc.initF
  obtain ⟨cd, hcd, hmro, hhd⟩ := xc.cd
  have hxC : x ≠ c.TF := fun e => by
    subst e
    obtain ⟨nm, q, N, bs, bm, hdct, sn, sub, ab, col, dd, k0, k1, k2, k3, k5, ho, _⟩ := xc.tf
    have := X _ _ ho
    rw [hx] at this
    cases this
    cases hvs
  refine init_pre D X T xc.super_ xc.noTop xc.fe hx hcx (fun c e => by rw [hvs] at e; cases e) (params := ["self", "what"]) rfl rfl rfl (by decide) hroom ?_
  intro h₂ tk so p1 p2 p4 whp sep p6 fvp p7 hL hk hso hlt
  have X₂ := X.keeps hk
  have hsup := xc.supF
  unfold ks_superIn at hsup
  rw [hcd] at hsup
  have hm : Looks (model c.prog c.w) h₂ (mroOf (.ref c.TF)) cd.mro := fun A Q E s k q => wpAny_bind ((looks_clsIn X₂ hcd) A _ E s k (wpAny_pure q))
  refine mw_getMethod hso (looks_opaque X₂ xc.opaque_) hm rfl X₂ (hk _ _ hx) hcx (looks_mroIn X₂ xc.sub) hsup hxC ?_
  have hq : (h₂.push (mwObj x)).get? h₂.objs.size = some (mwObj x) := Heap.get?_push_size _ rfl
  have pk : ∀ b o, h₂.get? b = some o → (h₂.push (mwObj x)).get? b = some o := fun b o e => Heap.get?_push_of_some _ e
  have wloc : sc.names.lookup (S "what") = some .local := D.loc "what" (by simp)
  have sloc : sc.names.lookup (S "self") = some .local := D.loc "self" (by simp)
  have lw : ((["self", "what"].map S).zip [Value.ref x, v]).reverse.lookup (S "what") = some v := lookup_rev (by show (["self", "what"].map S).Nodup; decide +kernel) (.tail _ (.head _))
  have ls : ((["self", "what"].map S).zip [Value.ref x, v]).reverse.lookup (S "self") = some (.ref x) := lookup_rev (by show (["self", "what"].map S).Nodup; decide +kernel) (.head _)
  have hev : wpAny (model c.prog c.w) (A.deeper (ksEnv qn sc s.heap.objs.size fF (.ref cda) cc)) (spliced (backTo p4 (starEach [PySem.Expr.Name (S "what") whp] (ksEnv qn sc s.heap.objs.size fF (.ref cda) cc))))
      (fun us s₁ => us = [v] ∧ s₁ = { s with heap := h₂.push (mwObj x), toks := tk + 1 }) (fun _ _ => False) { s with heap := h₂.push (mwObj x), toks := tk + 1 } :=
    wpAny_items_cons (name_at D.kind wloc (hL.keeps pk) lw (by decide +kernel) (wpAny_items_nil ⟨rfl, rfl⟩))
  refine callWith_of (P := fun h => h.get? h₂.objs.size = some (mwObj x)) rfl (fun h X' => ⟨.machine, .inr (.inl rfl), (Looks.ld (part := none) X').andThen .now⟩) ?_
  refine evalArgs_plain (wpAny_mono hev (fun us s₁ hu => ?_) fun _ _ z => z)
  obtain ⟨rfl, rfl⟩ := hu
  refine ⟨hq, ?_⟩
  have hx₃ := pk _ _ (hk _ _ hx)
  refine mw_call (X₂.keeps pk) hcd hq hx₃ hcx hvs h0 (by simp [sizeLine_eq]) ?_
  have hsz : 0 < vs.size := (Array.getElem?_eq_some_iff.mp h0).1
  have hx₄ := Heap.get?_push_of_some (h := h₂.push (mwObj x)) { cls := .type "tuple", data := .seq [v].toArray } hx₃
  have other : ∀ b o, b ≠ x → (h₂.push (mwObj x)).get? b = some o → (((h₂.push (mwObj x)).push { cls := .type "tuple", data := .seq [v].toArray }).update x (Obj.mapFields (·.setIfInBounds 0 (.ref (h₂.push (mwObj x)).objs.size)))).get? b = some o :=
    fun b o hb e => (Heap.get?_update_other _ _ (Ne.symm hb)).trans (Heap.get?_push_of_some _ e)
  have hd₅ := Obj.data_mapFields hvs (·.setIfInBounds 0 (.ref (h₂.push (mwObj x)).objs.size))
  have hx₅ := Heap.get?_update_self (Obj.mapFields (·.setIfInBounds 0 (.ref (h₂.push (mwObj x)).objs.size))) hx₄ (Obj.isFreed_of_fields hd₅)
  have xL : x ≠ s.heap.objs.size := Nat.ne_of_lt (Heap.lt_size hx)
  have hL₅ : (((h₂.push (mwObj x)).push { cls := .type "tuple", data := .seq [v].toArray }).update x (Obj.mapFields (·.setIfInBounds 0 (.ref (h₂.push (mwObj x)).objs.size)))).Ns s.heap.objs.size (fun y => ((["self", "what"].map S).zip [Value.ref x, v]).reverse.lookup y) := by
    obtain ⟨o, es, ep, hoL, r⟩ := hL
    exact ⟨o, es, ep, other _ _ (Ne.symm xL) (pk _ _ hoL), r⟩
  have X₅ : c.K.In (((h₂.push (mwObj x)).push { cls := .type "tuple", data := .seq [v].toArray }).update x (Obj.mapFields (·.setIfInBounds 0 (.ref (h₂.push (mwObj x)).objs.size)))) := fun b o e => by
    refine other b o (fun q => ?_) (pk _ _ (X₂ b o e))
    subst q
    rw [hxK] at e
    cases e
  refine wpAny_execs_cons (plainObj_wpAny_Assign_Attribute (name_at D.kind wloc hL₅ lw (by decide +kernel) (name_at D.kind sloc hL₅ ls (by decide +kernel) ?_)) rfl)
  refine xs_first (C := c.TF) X₅ hx₅ ((Obj.cls_mapFields _ _).trans hcx) ((mapFields_dict _ _).trans hdx) hd₅ hcd hmro xc.what xc.setattr hhd fun h' hd' hx' ho' => ?_
  refine wpAny_execs_nil (h h' _ _ _ ⟨_, _, hx', (Obj.cls_mapFields _ _).trans hcx, rfl, hd₅, ?_, ?_, hd'⟩ ?_ fun b o hb e => ?_)
  · have := (Array.getElem?_eq_some_iff.mp h1).1
    simpa using this
  · rw [Array.getElem?_setIfInBounds]
    simpa using h1
  · refine get?_none_of_size ?_
    have h3 : s.heap.objs.size < h₂.objs.size := by
      obtain ⟨o, _, _, hoL, _⟩ := hL
      exact Heap.lt_size hoL
    rw [Heap.size_after_update, Heap.size_push, Heap.size_push]
    omega
  · exact ho' b o hb (other b o hb (pk _ _ (hk b o e)))

theorem sf_init {fF fS FE SF : Addr} (xc : XcOk c fF fS FE SF) (hxK : c.K.lookup x = none) (X : c.K.In s.heap) (T : TopRead c.p c.loose c.mg c.mb s.heap) {ox : Obj} {vs : Array Value} {t0 : Addr} {v u : Value} (hx : s.heap.get? x = some ox) (hcx : ox.cls = .ref c.TF) (hdx : ox.dict = none) (hvs : ox.data = .fields vs) (h0 : vs[0]? = some (.ref t0)) (h1 : vs[1]? = some .none)
    (hroom : A.depth + 4 < recursionLimit) {R : Result → Shared → Prop} (h : ∀ h' tk de k1 k2, ExcSt h' c.TF x de [ent c.w.params "what" k1 v, ent c.w.params "spot" k2 u] 2 → s.heap.get? de = none → (∀ b o, b ≠ x → s.heap.get? b = some o → h'.get? b = some o) → R (.ok (.ret .none)) { s with heap := h', toks := tk }) :
    codeAny (model c.prog c.w) A (.call (.ref fS) ⟨[.ref x, v, u], []⟩) R s := by
  obtain ⟨qn, sc, cda, cc, b, D⟩ := initAt_of xc.initS
  obtain ⟨cd, hcd, hmro, hhd⟩ := xc.cd
  have hxC : x ≠ c.TF := fun e => by
    subst e
    obtain ⟨nm, q, N, bs, bm, hdct, sn, sub, ab, col, dd, k0, k1, k2, k3, k5, ho, _⟩ := xc.tf
    have := X _ _ ho
    rw [hx] at this
    cases this
    cases hvs
  refine init_pre D X T xc.super_ xc.noTop xc.sf hx hcx (fun c e => by rw [hvs] at e; cases e) (params := ["self", "what", "spot"]) rfl rfl rfl (by decide) (by omega) ?_
  intro h₂ tk so p1 p2 p4 whp sep p6 fvp p7 hL hk hso hlt
  have X₂ := X.keeps hk
  have hsup := xc.supS
  unfold ks_superIn at hsup
  rw [hcd] at hsup
  have hm : Looks (model c.prog c.w) h₂ (mroOf (.ref c.TF)) cd.mro := fun A Q E s k q => wpAny_bind ((looks_clsIn X₂ hcd) A _ E s k (wpAny_pure q))
  obtain ⟨of, hof, hofc⟩ : ∃ of, h₂.get? fF = some of ∧ of.cls = .type "function" := by
    have ht' : (c.K.lookup fF).map (·.cls) = some (.type "function") := beq_iff_eq.mp xc.isF
    cases z : c.K.lookup fF with
    | none => rw [z] at ht'; cases ht'
    | some of => rw [z] at ht'; exact ⟨of, X₂ _ _ z, Option.some.inj ht'⟩
  refine ks_wpAny_getMethod_super hso (looks_opaque X₂ xc.opaque_) hm rfl X₂ hsup hof hofc hxC (by decide) ?_
  have hq : (h₂.push (methodObj (.ref fF) (.ref x))).get? h₂.objs.size = some (methodObj (.ref fF) (.ref x)) := Heap.get?_push_size _ rfl
  have pk : ∀ b o, h₂.get? b = some o → (h₂.push (methodObj (.ref fF) (.ref x))).get? b = some o := fun b o e => Heap.get?_push_of_some _ e
  have wloc : sc.names.lookup (S "what") = some .local := D.loc "what" (by simp)
  have ploc : sc.names.lookup (S "spot") = some .local := D.loc "spot" (by simp)
  have sloc : sc.names.lookup (S "self") = some .local := D.loc "self" (by simp)
  have nd3 : (((["self", "what", "spot"].map S).zip [Value.ref x, v, u]).map (·.1)).Nodup := by show (["self", "what", "spot"].map S).Nodup; decide +kernel
  have lw : ((["self", "what", "spot"].map S).zip [Value.ref x, v, u]).reverse.lookup (S "what") = some v := lookup_rev nd3 (.tail _ (.head _))
  have lp : ((["self", "what", "spot"].map S).zip [Value.ref x, v, u]).reverse.lookup (S "spot") = some u := lookup_rev nd3 (.tail _ (.tail _ (.head _)))
  have ls : ((["self", "what", "spot"].map S).zip [Value.ref x, v, u]).reverse.lookup (S "self") = some (.ref x) := lookup_rev nd3 (.head _)
  have hev : wpAny (model c.prog c.w) (A.deeper (ksEnv qn sc s.heap.objs.size fS (.ref cda) cc)) (spliced (backTo p4 (starEach [PySem.Expr.Name (S "what") whp] (ksEnv qn sc s.heap.objs.size fS (.ref cda) cc))))
      (fun us s₁ => us = [v] ∧ s₁ = { s with heap := h₂.push (methodObj (.ref fF) (.ref x)), toks := tk + 1 }) (fun _ _ => False) { s with heap := h₂.push (methodObj (.ref fF) (.ref x)), toks := tk + 1 } :=
    wpAny_items_cons (name_at D.kind wloc (hL.keeps pk) lw (by decide +kernel) (wpAny_items_nil ⟨rfl, rfl⟩))
  refine callWith_of (P := MethP c.K h₂.objs.size fF (.ref x)) rfl (keeps_M xc.fnF) ?_
  refine evalArgs_plain (wpAny_mono hev (fun us s₁ hu => ?_) fun _ _ z => z)
  obtain ⟨rfl, rfl⟩ := hu
  refine ⟨⟨hq, X₂.keeps pk⟩, wpAny_call (method_call hq ?_)⟩
  have kk : ∀ b o, s.heap.get? b = some o → (h₂.push (methodObj (.ref fF) (.ref x))).get? b = some o := fun b o e => pk _ _ (hk b o e)
  refine fd_init (s := { s with heap := h₂.push (methodObj (.ref fF) (.ref x)), toks := tk + 1 }) xc hxK (X.keeps kk) (T.keeps kk) (kk _ _ hx) hcx hdx hvs h0 h1 (by show A.depth + 1 + 2 < recursionLimit; omega) fun h' tk' de k1 hE hde hoth => ?_
  have xL : x ≠ s.heap.objs.size := Nat.ne_of_lt (Heap.lt_size hx)
  have hL' : h'.Ns s.heap.objs.size (fun y => ((["self", "what", "spot"].map S).zip [Value.ref x, v, u]).reverse.lookup y) := by
    obtain ⟨o, es, ep, hoL, r⟩ := hL
    exact ⟨o, es, ep, hoth _ _ (Ne.symm xL) (pk _ _ hoL), r⟩
  have X' : c.K.In h' := fun b o e => by
    refine hoth b o (fun q => ?_) (kk _ _ (X b o e))
    subst q
    rw [hxK] at e
    cases e
  obtain ⟨oe, vs', q1, q2, q3, q4, q5, q6, q7⟩ := hE
  refine wpAny_execs_cons (plainObj_wpAny_Assign_Attribute (name_at D.kind ploc hL' lp (by decide +kernel) (name_at D.kind sloc hL' ls (by decide +kernel) ?_)) rfl)
  have hne : ((S "what") == (S "spot")) = false := by decide +kernel
  have hl : (W.getL (S "spot") [ent c.w.params "what" k1 v]).isSome = true := by
    unfold W.getL
    rw [List.find?_cons]
    have : (Value.str (S "what") k1).isStr (S "spot") = false := hne
    simp only [this]
    rfl
  have hput : ∀ hs key, putL (S "spot") hs key u [ent c.w.params "what" k1 v] = [ent c.w.params "what" k1 v, ⟨hs, key, u⟩] := fun hs key => by
    unfold putL
    have : (Value.str (S "what") k1).isStr (S "spot") = false := hne
    rw [show (ent c.w.params "what" k1 v).key.isStr (S "spot") = false from this]
    simp [putL]
  have hputN : putN (S "spot") [ent c.w.params "what" k1 v] 1 = 2 := by
    unfold putN
    have : (Value.str (S "what") k1).isStr (S "spot") = false := hne
    simp [this]
  refine xs_more (C := c.TF) X' q1 q2 q3 q4 q7 hcd hmro xc.spot xc.setattr hhd hl (by rw [hput]; simp) fun h'' hd'' hs'' => ?_
  rw [hput, hputN] at hd''
  have hdn : s.heap.get? de = none := by
    cases q : s.heap.get? de with
    | none => rfl
    | some o => have := kk _ _ q; rw [show ({ s with heap := h₂.push (methodObj (.ref fF) (.ref x)), toks := tk + 1 } : Shared).heap.get? de = none from hde] at this; cases this
  have hxd : x ≠ de := fun e => by rw [e, hdn] at hx; cases hx
  refine wpAny_execs_nil (h h'' _ de k1 _ ⟨oe, vs', (hs''.2 _ hxd).trans q1, q2, q3, q4, q5, q6, hd''⟩ hdn fun b o hb e => ?_)
  exact (hs''.2 b fun q => by rw [q, hdn] at e; cases e).trans (hoth b o hb (kk _ _ e))
end
end Mine
end
section
/-! Soundness, part 21: raise. -/
open PySem PySem.W PySem.Calls PyProof.Rows
set_option maxRecDepth 100000
set_option linter.unusedVariables false
set_option maxHeartbeats 4000000
namespace Mine

section
variable {M : Model} {A : Around} {E : Value → Shared → Prop} {env : Env}
variable {nm q : Str} {C N : Addr} {bs bm : List Value} {hdct : Bool} {sn : List Str} {sub : List Value} {ab : Bool} {col : Option Bool} {dd : Option Addr} {k0 k1 k2 k3 k5 : Option Value} {newId : String}

theorem xr_stmt {s : Shared} {x : Sem Value} {Q : Flow → Shared → Prop} (hbase : bm.contains (.type "BaseException") = true) (hh : A.handled = none)
    (h : wpAny M A x (fun v s₁ => ∃ e de vs sl, v = .ref e ∧ s₁.heap.get? C = some (excClassObj nm q C N bs bm hdct sn sub ab col dd k0 k1 k2 k3 k5 newId) ∧
      s₁.heap.get? e = some { cls := .ref C, dict := some de, data := .fields vs, slots := sl } ∧ vs[1]? = some .none ∧ E (.ref e) s₁) E s) :
    wpAny M A (raiseStmt env (some x) none) Q E s := by
  have hcB : (Value.ref C :: bm).contains (.type "BaseException") = true := by rw [List.contains_cons, hbase, Bool.or_true]
  unfold raiseStmt
  refine wpAny_bind (wpAny_mono h (fun v s₁ h₁ => ?_) fun _ _ x => x)
  obtain ⟨e, de, vs, sl, rfl, hC, he, h1, hE⟩ := h₁
  obtain ⟨hp, g, d, tk, os⟩ := s₁
  repeat (first | with_reducible refine wpAny_loadPart_at he ?_ | with_reducible refine wpAny_loadPart_at hC ?_ | (with_reducible refine wpAny_isSubtype_exc hC ?_; rw [hcB]) | wp_step)
  rw [h1]
  refine wpAny_pure ?_
  rw [if_neg (by decide)]
  exact wpAny_pure (wpAny_raiseNew_none hh hE)
end

section
variable {c : FC} {n : Nat} {f : Fm}

theorem x_raise {fF fS FE SF : Addr} {u v : PySem.Expr} {np cpos pos : Pos} {rest : List Stmt} {ga gb : Loc → Hp → Res PV} (ok : FmOk c n f) (xc : XcOk c fF fS FE SF) (hk : f.scope.names.lookup (S "TextFault") = some .globalImplicit)
    (hu : SoundE c f u ga) (hv : SoundE c f v gb) (pu : plainE u = true) (pv : plainE v = true) :
    SoundX c f (.Raise (some (.Call (.Name (S "TextFault") np) [u, v] [] cpos)) none pos :: rest) fun ρ σ => (ga ρ σ).bind fun a σ => (gb ρ σ).bind fun b σ => match a, b with
      | .str t, .int i => .err t i σ
      | _, _ => .stuck := fun {s m nw ad ρ σ Q E} I H => by
  obtain ⟨nm, q, N, bs, bm, hdct, sn, sub, ab, col, dd, k0, k1, k2, k3, k5, hC, ET⟩ := xc.tf
  have hh : f.A.handled = none := ok.handled
  refine wpAny_execs_cons ?_
  rw [arm_exec_Raise]
  have key : wpAny (model c.prog c.w) f.A (eval (.Call (.Name (S "TextFault") np) [u, v] [] cpos) f.env) (fun v s₁ => ∃ e de vs sl, v = .ref e ∧ s₁.heap.get? c.TF = some (excClassObj nm q c.TF N bs bm hdct sn sub ab col dd k0 k1 k2 k3 k5 "Exception.__new__") ∧
      s₁.heap.get? e = some { cls := .ref c.TF, dict := some de, data := .fields vs, slots := sl } ∧ vs[1]? = some .none ∧ E (.ref e) s₁) E s := by
    refine Call_ (fn_name ok I hk (by decide +kernel) xc.name ?_) rfl
    refine callWith_K ok.X xc.keep ?_ (star_plain pu) (star_any fun y hy => by rw [List.mem_singleton] at hy; subst hy; exact pv)
    refine wpAny_items_cons (hu I (PostS.bind (R' := VR) H fun a σ₁ h₁ tk₁ nw₁ ad₁ ua I₁ X₁ r₁ H₁ => ?_)) (star_plain pu)
    refine wpAny_items_cons (hv (s := { s with heap := h₁, toks := tk₁ }) I₁ (PostS.bind (R' := VR) H₁ fun b σ₂ h₂ tk₂ nw₂ ad₂ ub I₂ X₂ r₂ H₂ => wpAny_items_nil ⟨ok.X.keeps I₂.F.keep, ?_⟩)) (star_plain pv)
    have r₁' := r₁.ext X₂
    split at H₂
    · rename_i t i
      cases r₁' with
      | str _ t1 =>
        cases r₂ with
        | int _ t2 =>
          have X₃ := ok.X.keeps I₂.F.keep
          refine xc_call ET X₃ (X₃ _ _ hC) xc.init xc.isS (by simp [sizeLine_eq]) ?_
          have szn : ∀ {b o}, c.base.get? b = some o → b < h₂.objs.size := fun e => Heap.lt_size (I₂.F.keep _ _ e)
          have hxb : c.base.get? (h₂.objs.size + 1) = none := by
            cases q : c.base.get? (h₂.objs.size + 1) with
            | none => rfl
            | some o => exact absurd (szn q) (Nat.not_lt.mpr (Nat.le_succ _))
          have hxK : c.K.lookup (h₂.objs.size + 1) = none := by
            cases q : c.K.lookup (h₂.objs.size + 1) with
            | none => rfl
            | some o => have := ok.X _ _ q; rw [hxb] at this; cases this
          have pk : ∀ b o, h₂.get? b = some o → ((h₂.push { cls := .type "tuple", data := .seq [Value.str (S t) t1, Value.int i t2].toArray }).push (excObj c.TF h₂.objs.size)).get? b = some o := fun b o e => Heap.get?_push_of_some _ (Heap.get?_push_of_some _ e)
          have hx : ((h₂.push { cls := .type "tuple", data := .seq [Value.str (S t) t1, Value.int i t2].toArray }).push (excObj c.TF h₂.objs.size)).get? (h₂.objs.size + 1) = some (excObj c.TF h₂.objs.size) := by heap_get
          have hnear := near_under (f := f) c.TF [Value.str (S t) t1, Value.int i t2] []
          refine sf_init (s := { s with heap := (h₂.push { cls := .type "tuple", data := .seq [Value.str (S t) t1, Value.int i t2].toArray }).push (excObj c.TF h₂.objs.size), toks := tk₂ }) xc hxK (X₃.keeps pk) ((ok.T.keeps I₂.F.keep).keeps pk) hx rfl rfl rfl rfl rfl ?_ fun h' tk de kk1 kk2 hE hde hoth => ?_
          · have h1 := ok.depth
            have h2 : (f.A.under (.builtin "type.__call__" ⟨.ref c.TF :: [Value.str (S t) t1, Value.int i t2], []⟩)).depth ≤ f.A₀.depth + 1 + 4 := hnear.depth
            show (f.A.under (.builtin "type.__call__" ⟨.ref c.TF :: [Value.str (S t) t1, Value.int i t2], []⟩)).depth + 4 < _
            omega
          · obtain ⟨oe, vs, q1, q2, q3, q4, q5, q6, q7⟩ := hE
            have xe : h₂.get? (h₂.objs.size + 1) = none := get?_none_of_size (by omega)
            have hden : h₂.get? de = none := by
              cases q : h₂.get? de with
              | none => rfl
              | some o => have := pk _ _ q; rw [show ((h₂.push { cls := .type "tuple", data := .seq [Value.str (S t) t1, Value.int i t2].toArray }).push (excObj c.TF h₂.objs.size)).get? de = none from hde] at this; cases this
            have kk : ∀ b o, h₂.get? b = some o → h'.get? b = some o := fun b o e => hoth b o (fun q => by rw [q, xe] at e; cases e) (pk _ _ e)
            have I₃ := I₂.enter kk hden q7
            have hcb : h'.get? c.TF = some (excClassObj nm q c.TF N bs bm hdct sn sub ab col dd k0 k1 k2 k3 k5 "Exception.__new__") := kk _ _ (X₃ _ _ hC)
            have dne : de ≠ h₂.objs.size + 1 := fun e => by
              subst e
              rw [show ((h₂.push { cls := .type "tuple", data := .seq [Value.str (S t) t1, Value.int i t2].toArray }).push (excObj c.TF h₂.objs.size)).get? (h₂.objs.size + 1) = none from hde] at hx; cases hx
            refine ⟨rfl, h₂.objs.size + 1, de, vs, oe.slots, rfl, hcb, ?_, q6, ?_⟩
            · obtain ⟨oc, odi, oda, osl⟩ := oe
              dsimp only at q2 q3 q4
              subst q2 q3 q4
              exact q1
            · refine H₂ _ _ ⟨h₂.objs.size + 1, de, h', tk, m, _, ad₂, ρ, 2, kk1, kk2, t1, t2, rfl, rfl, I₃, Ext.add1 _, .head _, hxb, fun p hp => ?_, fun hm => ?_, oe, vs, q1, q2, q3, q4, q5, .inl ⟨trivial, q6⟩⟩
              · rcases List.mem_cons.mp hp with rfl | hp
                · exact dne
                · exact fun e => by
                    have := led_lt I₂.N p hp
                    rw [e] at this
                    have h3 : h₂.objs.size + 1 < h₂.objs.size := this
                    omega
              · obtain ⟨⟨o, _, _, ho, _⟩, _⟩ := I₂.adr_at hm
                rw [show ({ s with heap := h₂, toks := tk₂ } : Shared).heap.get? (h₂.objs.size + 1) = none from xe] at ho
                cases ho
    · exact H₂.elim
  simp only [evalOpt, Option.map]
  refine wpAny_bind (wpAny_standAt (xr_stmt (nm := nm) (q := q) (C := c.TF) (N := N) (bs := bs) (bm := bm) (hdct := hdct) (sn := sn) (sub := sub) (ab := ab) (col := col) (dd := dd) (k0 := k0) (k1 := k1) (k2 := k2) (k3 := k3) (k5 := k5) (newId := "Exception.__new__") ET.base hh ?_))
  exact wpAny_bind (wpAny_mono key (fun v s₃ h₃ => wpAny_bind (wpAny_standAt (wpAny_pure h₃))) fun _ _ x => x)
end
end Mine
end
section
/-! Soundness, part 22: a field of a caught exception is read; try. -/
open PySem PySem.W PySem.Calls PyProof.Rows Builtin Builtin.ObjectAttr
set_option maxRecDepth 100000
set_option linter.unusedVariables false
set_option maxHeartbeats 4000000
namespace Mine

section
variable {prog : Program} {w : World} {A : Around} {E : Value → Shared → Prop} {s : Shared} {K : Frag} {C x : Addr} {name : Str} {v : Value} {ox : Obj} {od : Option Obj} {expr : Bool} {Q : Value → Shared → Prop}

theorem xg_get (X : K.In s.heap) (I : InstAt s.heap x ox C od) (hga : findIn K (.ref C) "__getattribute__" = some (some (.builtin "BaseException.__getattribute__"))) (hgt : findIn K (.ref C) "__getattr__" = some none) (hsub : mroIn K C (.type "BaseException") = some true)
    (hf : findObj K C od name = some (.value v)) (hh : handedIn v = true) (h : Q v { s with toks := s.toks + 1 }) : wpAny (model prog w) A (getAttr (.ref x) name expr) Q E s := by
  obtain ⟨hp, g, d, t, os⟩ := s
  have L0 := I.type (M := model prog w)
  have L1 := looks_find (M := model prog w) X I hf
  have hslot : Slot "Exception" "__getattribute__" "BaseException.__getattribute__" := PySem.F.attr_Exception.ga
  unfold getAttr getAttrBy
  refine wpAny_bind (wpAny_mkText (wpAny_holding (wpAny_bind (L0.at (wpAny_bind ((looks_findIn X hga).at ?_))))))
  show wpAny _ _ (getAttrByItsOwn (.ref x) (.str name t) (.ref C) (.builtin "BaseException.__getattribute__") true expr) _ _ _
  unfold getAttrByItsOwn hookBefore callGetattribute boundAndCalled
  refine wpAny_bind ?_
  rw [if_pos (show onTheHeap (Value.ref C) = true from rfl)]
  refine (looks_findIn X hgt).at ?_
  refine wpAny_bind (wpAny_attempt (wpAny_holding ?_))
  rw [if_neg (show ¬ ((expr && onTheHeap (Value.builtin "BaseException.__getattribute__")) = true) from by cases expr <;> decide)]
  refine wpAny_bind (wpAny_of_eq (hslot.bind (.ref x)) ?_)
  have L3 : Looks (model prog w) hp (isInstance (.ref x) (.type "BaseException")) true := L0.andThen (looks_mroIn X hsub)
  have kc : wpAny (model prog w) A (call (.builtin "BaseException.__getattribute__") [.ref x, .str name t]) (fun v' s' => v' = v ∧ s' = ⟨hp, g, d, t + 1, os⟩) (fun _ _ => False) ⟨hp, g, d, t + 1, os⟩ := by
    refine wpAny_call (codeAny_call_builtin hslot.plain PySem.F.entry_bexc_ga (@check_slot (model prog w) _ _ ⟨hp, g, d, t + 1, os⟩ "BaseException.__getattribute__" "BaseException" "__getattribute__" (.ref x) [.str name t] [] _ (by decide +kernel) (by decide +kernel) L3 (PySem.F.args_bexc_ga _ _) ?_))
    unfold Builtin.«object.__getattribute__»
    refine wpAny_bind (wpAny_of_eq (a := (Value.ref x, [Value.str name t])) rfl ?_)
    refine wpAny_bind (wpAny_of_eq (a := name) rfl ?_)
    refine wpAny_bind (L0.at ?_)
    refine wpAny_bind (L1.at ?_)
    exact wpAny_pure ⟨rfl, rfl⟩
  refine wpAny_mono kc (fun v' s' hv => ?_) fun _ _ z => z.elim
  · obtain ⟨rfl, rfl⟩ := hv
    show wpAny _ _ (handedOut v') _ _ _
    rw [handedOut_of hh]; exact wpAny_pure h
end

/-- what is asked for the reading of a caught one -/
structure XgOk (c : FC) : Prop where
  ga : findIn c.K (.ref c.TF) "__getattribute__" = some (some (.builtin "BaseException.__getattribute__"))
  gt : findIn c.K (.ref c.TF) "__getattr__" = some none
  fw : findIn c.K (.ref c.TF) (S "what") = some none
  fs : findIn c.K (.ref c.TF) (S "spot") = some none
  hd : hasDictIn c.K c.TF = true

section
variable {c : FC} {n : Nat} {f : Fm}

theorem Inv.reloc {m m' : Str → Option Value} {nw : Led} {ad : Ads} {ρ : Loc} {σ : Hp} {h h' : Heap} (I : Inv c f m nw ad ρ σ h) (hsc : f.sc = none) (hn : h'.Ns f.L m') (hs : Heap.SameBut f.L h h') : Inv c f m' nw ad Loc.empty σ h' := by
  refine ⟨I.F.set hn hs, I.N.set hs, I.nd, I.sf.step (fun p _ Lp _ e _ _ => hs.2 Lp e) (fun _ _ _ g => g), (fun x v h => nomatch h), I.H, I.ap, ?_⟩
  unfold ScOk
  rw [hsc]
  trivial

theorem hp_fn (ok : FmOk c n f) : (f.env.scope.kind == .class || (f.env.scope.kind == .module && f.env.locals != f.env.globals)) = false := by
  show (f.scope.kind == .class || (f.scope.kind == .module && _)) = false
  rw [ok.kind]; rfl

theorem x_tryRet {fF fS FE SF : Addr} {x : PySem.Expr} {p0 np q1 q2 q3 q4 tp p1 hpos pos : Pos} {kk : Nat} {rest : List Stmt} {ge : Loc → Hp → Res PV} (ok : FmOk c n f) (xc : XcOk c fF fS FE SF) (xg : XgOk c) (hsc : f.sc = none)
    (hk : f.scope.names.lookup (S "TextFault") = some .globalImplicit) (hl : f.scope.names.lookup (S "fault") = some .local) (he : SoundE c f x ge) :
    SoundX c f (.Try [.Return (some x) p0] [.ExceptHandler (some (.Name (S "TextFault") np)) (some (S "fault")) [.Return (some (.Tuple [.Attribute (.Name (S "fault") q1) (S "what") q2, .Attribute (.Name (S "fault") q3) (S "spot") q4] kk tp)) p1] hpos] [] [] pos :: rest) fun ρ σ => tryR (ge ρ σ) ρ := fun {s m nw ad ρ σ Q E} I H => by
  obtain ⟨nm, q, N, bs, bm, hdct, sn, sub, ab, col, dd, k0, k1, k2, k3, k5, hC, ET⟩ := xc.tf
  refine wpAny_execs_cons (wpAny_Try_except (wpAny_execs_cons (wpAny_Return_some (he I ?_))))
  dsimp only at H
  cases hr : ge ρ σ with
  | stuck => rw [hr] at H; exact H.elim
  | ok v σ' =>
    rw [hr] at H
    exact fun h' tk' nw' ad' u I' X' r => H h' tk' m nw' ad' (.ret u) I' X' ⟨u, rfl, r⟩
  | err t i σ' =>
    rw [hr] at H
    rintro e s' ⟨ea, de, h', tk, m', nw', ad', ρ', n', kk1, kk2, t1, t2, rfl, rfl, I', X', hd, Fl⟩
    refine wp_note (P := fun _ => True) (N := True) ok ok.framesA I' Fl fun h₂ I₂ H₂ => ?_
    refine wp_setFl (g := none) I₂ H₂ fun h₃ I₃ H₃ => ?_
    have H₃' := H₃
    obtain ⟨fresh, off, offF, oe, vs, he3, hc3, hdi3, hdd3, hsz3, hT3⟩ := H₃'
    refine wpAny_handleBy_cons (codeAny_handlers_test (name_K (s := { s with heap := h₃, toks := tk }) I₃.F ok.X ok.T xc.name ?_ ok.kind hk (by decide +kernel))) (by intro q; cases q)
    have X₃ := ok.X.keeps I₃.F.keep
    refine wpAny_excMatches_sub_self (X₃ _ _ hC) he3 hc3 ET.base (codeAny_handlers_suite_as ?_)
    refine wp_setFl (s := { s with heap := h₃, toks := tk }) (g := none) I₃ H₃ fun h₄ I₄ H₄ => ?_
    obtain ⟨_, _, _, oe4, vs4, he4, hc4, hdi4, hdd4, _, _⟩ := H₄
    refine wpAny_storeName_local (s := { s with heap := h₄, toks := tk }) hl I₄.F.ns (fun h₅ hn₅ hs₅ => ?_) (hp_fn ok)
    have I₅ := I₄.reloc hsc hn₅ hs₅
    have eL : ea ≠ f.L := fun e => offF (mem_adr.mpr (.inl e))
    have he5 : h₅.get? ea = some oe4 := (hs₅.2 ea eL).trans he4
    have X₅ := ok.X.keeps I₅.F.keep
    have hde : h₅.get? de = some (dictOf (excEs c.w.params t i kk1 kk2 t1 t2) n') := (I₅.N _ hd).1
    have IA : W.InstAt h₅ ea oe4 c.TF (some (dictOf (excEs c.w.params t i kk1 kk2 t1 t2) n')) := ⟨he5, hc4, by unfold notCls; rw [hdd4], by rw [hdi4]; exact hde⟩
    have hne : ((S "what") == (S "spot")) = false := by decide +kernel
    have lw : lookIn (S "what") (dictOf (excEs c.w.params t i kk1 kk2 t1 t2) n') = some (some (.str (S t) t1)) := by
      rw [lookIn_dict]
      unfold W.getL excEs
      rw [List.find?_cons]
      have : (Value.str (S "what") kk1).isStr (S "what") = true := by show (S "what" == S "what") = true; simp
      simp only [this]
    have ls : lookIn (S "spot") (dictOf (excEs c.w.params t i kk1 kk2 t1 t2) n') = some (some (.int i t2)) := by
      rw [lookIn_dict]
      unfold W.getL excEs
      rw [List.find?_cons]
      have h1 : (Value.str (S "what") kk1).isStr (S "spot") = false := hne
      have h2 : (Value.str (S "spot") kk2).isStr (S "spot") = true := by show (S "spot" == S "spot") = true; simp
      simp only [h1, List.find?_cons, h2]
    have key : ∀ {tk' : Nat} {Q' : List Value → Shared → Prop} {E' : Value → Shared → Prop}, (∀ tk'', Q' [.str (S t) t1, .int i t2] { s with heap := h₅, toks := tk'' }) →
        wpAny (model c.prog c.w) (f.A.mark (some (.ref ea))) (spliced (backTo tp (starEach [PySem.Expr.Attribute (.Name (S "fault") q1) (S "what") q2, PySem.Expr.Attribute (.Name (S "fault") q3) (S "spot") q4] f.env))) Q' E' { s with heap := h₅, toks := tk' } := by
      intro tk' Q' E' hq
      refine wpAny_items_cons (Attribute_any_ (name_at ok.kind hl hn₅ (by simp) (by decide +kernel) (xg_get (s := { s with heap := h₅, toks := tk' }) X₅ IA xg.ga xg.gt xc.subB (findObj_own xg.hd xg.fw rfl lw) rfl ?_)) ?_)
      · refine wpAny_items_cons (Attribute_any_ (name_at ok.kind hl hn₅ (by simp) (by decide +kernel) (xg_get (s := { s with heap := h₅, toks := tk' + 1 }) X₅ IA xg.ga xg.gt xc.subB (findObj_own xg.hd xg.fs rfl ls) rfl (wpAny_items_nil (hq _)))) ?_)
        show (do
          let o' ← attributeBase (.Name (S "fault") q3) (S "spot") f.env (eval (.Name (S "fault") q3) f.env)
          standAt q4.atName
          let r ← holding [o'] (getAttr o' (S "spot") true)
          letTemporaryGo (.Name (S "fault") q3) o' r
          pure r) = _
        rw [attributeBase_plain rfl]
      · show (do
          let o' ← attributeBase (.Name (S "fault") q1) (S "what") f.env (eval (.Name (S "fault") q1) f.env)
          standAt q2.atName
          let r ← holding [o'] (getAttr o' (S "what") true)
          letTemporaryGo (.Name (S "fault") q1) o' r
          pure r) = _
        rw [attributeBase_plain rfl]
    obtain ⟨news, N', sub', close⟩ := I₅.grow1
    refine wpAny_execs_cons (wpAny_Return_some (Tuple_ (key fun tk'' => ?_)))
    refine newTuple_N (s := { s with heap := h₅, toks := tk'' }) I₅.F N' (fun h₆ F₆ N₆ => ?_) (by simp [sizeLine_eq])
    have I₆ := close h₆ _ _ F₆ N₆ (led_lt N')
    refine wpAny_nameGoes (s := { s with heap := h₆, toks := tk'' }) hl I₆.F.ns (hp_fn ok) fun h₇ m₇ hn₇ hs₇ => ?_
    have I₇ := I₆.reloc hsc hn₇ hs₇
    refine H h₇ (tk'' + 1) m₇ _ ad' (.ret _) I₇ (X'.trans (Ext.add1 _)) ⟨_, rfl, .tup (.head _) (by simp) (.cons (.str t t1) (.cons (.int i t2) .nil))⟩
end
end Mine
end
section
/-! Soundness, part 23: every block that is checked; calls to any depth. -/
open PySem PySem.W PySem.Calls PyProof.Rows
set_option maxRecDepth 100000
set_option linter.unusedVariables false
namespace Mine

noncomputable def noTry : PB → Bool
  | .nil => true
  | .expr _ k | .asg _ _ k | .asgT _ _ k | .asgAttr _ _ _ k | .asgItem _ _ _ k | .augLoc _ _ _ k | .augAttr _ _ _ _ k => noTry k
  | .ifS _ a b k => noTry a && noTry b && noTry k
  | .whileS _ b k | .forR _ _ b k | .forL _ _ b k => noTry b && noTry k
  | .ret _ _ | .raise _ _ _ | .brk _ => true
  | .tryRet _ _ => false

section
variable {c : FC} {n : Nat} {f : Fm} {k : Ck} {cf : CF} {w : Nat} {fF fS FE SF : Addr}

structure Box (p : Prop) : Prop where
  out : p
theorem soundX0 (ok : FmOk c n f) (cs : CsOk c) (sy : SyOk c k) (kn : k.names = f.scope.names) (co : CallOk c f cf) (xc : XcOk c fF fS FE SF) (xg : XgOk c) :
    ∀ (pb : PB) (l : List Stmt), (f.sc = none ∨ noTry pb = true) → chkB k pb l = true → Box (SoundX c f l (ex cf f.sc w pb)) := by
  have T := soundT (cf := cf) ok cs sy kn co
  have lk : ∀ {y : Str} {q : NameKind}, k.names.lookup y = some q → f.scope.names.lookup y = some q := fun h => kn ▸ h
  have both : ∀ {a b : Bool}, (f.sc = none ∨ (a && b) = true) → (f.sc = none ∨ a = true) ∧ (f.sc = none ∨ b = true) := fun h => by
    rcases h with h | h
    · exact ⟨.inl h, .inl h⟩
    · exact ⟨.inr (and2 h).1, .inr (and2 h).2⟩
  intro pb
  induction pb with
  | nil =>
    intro l hn h
    replace h := isEmpty_inv h
    obtain rfl := h
    exact ⟨x_nil⟩
  | expr e r ih =>
    intro l hn h
    refine kCons_el h fun s l h => ?_
    refine and_el h fun h hr => ?_
    refine kSExpr_el h fun e p h => ?_
    exact ⟨x_expr ok (T _ _ (and2 h).1).1 (and2 h).2 (ih _ hn hr).out⟩
  | asg x e r ih =>
    intro l hn h
    refine kCons_el h fun s l h => ?_
    refine and_el h fun h hr => ?_
    refine kSAsg_el h fun y v p h => ?_
    refine and_el h fun h he => ?_
    refine and_el h fun h hc => ?_
    refine and_el h fun h hx => ?_
    refine kName_el h fun _ _ h => ?_
    refine Ck.loc_el h fun h1 h2 => ?_
    exact ⟨x_asg ok (lk h1) (bne_iff_ne.mp hx) hc (T _ _ he).1 (ih _ hn hr).out⟩
  | asgT xs e r ih =>
    intro l hn h
    refine kCons_el h fun s l h => ?_
    refine and_el h fun h hr => ?_
    refine kSAsg_el h fun y v p h => ?_
    refine and_el h fun h he => ?_
    refine and_el h fun h hc => ?_
    refine kTuple_el h fun els _ _ h => ?_
    refine and_el h fun h hs => ?_
    refine and_el h fun h hdd => ?_
    refine and_el h fun h0 hd => ?_
    obtain ⟨b, hb⟩ := Option.isSome_iff_exists.mp hs
    exact ⟨x_asgT ok kn h0 (of_decide_eq_true hd) hdd hb hc (T _ _ he).1 (ih _ hn hr).out⟩
  | asgAttr o a e r ih =>
    intro l hn h
    refine kCons_el h fun s l h => ?_
    refine and_el h fun h hr => ?_
    refine kSAsg_el h fun y v p h => ?_
    refine and_el h fun h he => ?_
    refine and_el h fun h hc => ?_
    refine and_el h fun h ha => ?_
    refine kAttr_el h fun x y _ h => ?_
    refine and_el h fun hy ho => ?_
    refine beq_el hy ?_
    exact ⟨x_asgAttr ok cs (List.contains_iff_mem.mp ha) hc (T _ _ ho).1 (T _ _ he).1 (ih _ hn hr).out⟩
  | asgItem o key e r ih =>
    intro l hn h
    refine kCons_el h fun s l h => ?_
    refine and_el h fun h hr => ?_
    refine kSAsg_el h fun y v p h => ?_
    refine and_el h fun h he => ?_
    refine and_el h fun h hc => ?_
    refine kSubs_el h fun x i _ h => ?_
    refine and_el h fun hy ho => ?_
    refine kConst_el hy fun _ _ => ?_
    exact ⟨x_asgItem ok hc (T _ _ ho).1 (T _ _ he).1 (ih _ hn hr).out⟩
  | augLoc x op e r ih =>
    intro l hn h
    refine kCons_el h fun s l h => ?_
    refine and_el h fun h hr => ?_
    refine kSAug_el h fun y o v p h => ?_
    refine and_el h fun h he => ?_
    refine and_el h fun h ho => ?_
    refine and_el h fun h hx => ?_
    refine kName_el h fun _ _ h => ?_
    refine beq_el ho ?_
    refine Ck.loc_el h fun h1 h2 => ?_
    exact ⟨x_augLoc ok (lk h1) (bne_iff_ne.mp hx) (T _ _ he).1 (ih _ hn hr).out⟩
  | augAttr o a op e r ih =>
    intro l hn h
    refine kCons_el h fun s l h => ?_
    refine and_el h fun h hr => ?_
    refine kSAug_el h fun y q v p h => ?_
    refine and_el h fun h he => ?_
    refine and_el h fun h hq => ?_
    refine and_el h fun h ha => ?_
    refine kAttr_el h fun x y _ h => ?_
    refine and_el h fun hy ho => ?_
    refine beq_el hy ?_
    refine beq_el hq ?_
    exact ⟨x_augAttr ok cs (List.contains_iff_mem.mp ha) (T _ _ ho).1 (T _ _ he).1 (ih _ hn hr).out⟩
  | ifS q a b r iha ihb ihr =>
    intro l hn h
    refine kCons_el h fun s l h => ?_
    refine and_el h fun h hr => ?_
    refine kSIf_el h fun u x y p h => ?_
    refine and_el h fun h hb => ?_
    refine and_el h fun hq ha => ?_
    exact ⟨x_if (T _ _ hq).2 (iha _ (both (both hn).1).1 ha).out (ihb _ (both (both hn).1).2 hb).out (ihr _ (both hn).2 hr).out⟩
  | whileS q b r ihb ihr =>
    intro l hn h
    refine kCons_el h fun s l h => ?_
    refine and_el h fun h hr => ?_
    refine kSWhile_el h fun u x p h => ?_
    exact ⟨x_while ok (T _ _ (and2 h).1).2 (ihb _ (both hn).1 (and2 h).2).out (ihr _ (both hn).2 hr).out⟩
  | forR x as b r ihb ihr =>
    intro l hn h
    refine kCons_el h fun s l h => ?_
    refine and_el h fun h hr => ?_
    refine kSFor_el h fun y _ it body p h => ?_
    refine and_el h fun h hb => ?_
    refine and_el h fun h hg => ?_
    refine and_el h fun h0 hx => ?_
    refine kCallN_el hg fun g _ es _ hg => ?_
    refine and_el hg fun hg ha => ?_
    refine and_el hg fun hg hne => ?_
    refine Ck.loc_el h0 fun h1 h2 => ?_
    refine Ck.glob_el hg fun h3 h4 => ?_
    exact ⟨x_forR ok (lk h1) (bne_iff_ne.mp hx) (lk h3) (sy.bs _ (List.contains_iff_mem.mp rfl)) (not_inv hne) (T _ _ ha) (ihb _ (both hn).1 hb).out (ihr _ (both hn).2 hr).out⟩
  | forL x e b r ihb ihr =>
    intro l hn h
    refine kCons_el h fun s l h => ?_
    refine and_el h fun h hr => ?_
    refine kSFor_el h fun y _ it body p h => ?_
    refine and_el h fun h hb => ?_
    refine and_el h fun h he => ?_
    refine and_el h fun h hns => ?_
    refine and_el h fun h0 hx => ?_
    refine Ck.loc_el h0 fun h1 h2 => ?_
    exact ⟨x_forL ok (lk h1) (bne_iff_ne.mp hx) hns (T _ _ he).1 (ihb _ (both hn).1 hb).out (ihr _ (both hn).2 hr).out⟩
  | ret e r ih =>
    intro l hn h
    refine kCons_el h fun s l h => ?_
    refine kSRet_el h fun o p h => ?_
    replace h : chkRet k e o = true := h
    cases o with
    | some x =>
      exact ⟨x_ret (T _ _ h).1⟩
    | none =>
      obtain rfl := isNoneE_inv h
      exact ⟨x_retNone⟩
  | raise a b r ih =>
    intro l hn h
    refine kCons_el h fun s l h => ?_
    refine kSRaise_el h fun x p h => ?_
    refine kCallN_el h fun y _ es _ h => ?_
    refine and_el h fun h0 h => ?_
    refine k2_el h fun u v h => ?_
    refine and_el h fun h pv => ?_
    refine and_el h fun h pu => ?_
    refine Ck.glob_el h0 fun h1 h2 => ?_
    exact ⟨x_raise ok xc (lk h1) (T _ _ (and2 h).1).1 (T _ _ (and2 h).2).1 pu pv⟩
  | tryRet e r ih =>
    intro l hn h
    refine kCons_el h fun s l h => ?_
    refine kSTry_el h fun bs x z hs hp p h => ?_
    refine and_el h fun h h4 => ?_
    refine and_el h fun h hz => ?_
    refine and_el h fun he h0 => ?_
    refine kSRet_el he fun o _ he => ?_
    replace he := kEnd_some he
    obtain ⟨v, rfl, he⟩ := he
    refine kName_el h0 fun _ _ h0 => ?_
    refine kSRet_el h4 fun o _ h4 => ?_
    replace h4 := kEnd_some h4
    obtain ⟨v, rfl, h4⟩ := h4
    refine kTuple_el h4 fun es _ _ h4 => ?_
    refine k2_el h4 fun u v h4 => ?_
    refine and_el h4 fun h5 h6 => ?_
    refine kFld_el h5 fun _ _ => ?_
    refine kFld_el h6 fun _ _ => ?_
    refine Ck.glob_el h0 fun h1 h2 => ?_
    refine Ck.loc_el hz fun h3 h7 => ?_
    have hsc : f.sc = none := hn.elim id fun h => nomatch h
    refine ⟨?_⟩
    intro s m nw ad ρ σ Q E I H
    exact x_tryRet (ge := ev cf f.sc e) ok xc xg hsc (lk h1) (lk h3) (T _ _ he).1 I H
  | brk r ih =>
    intro l hn h
    refine kCons_el h fun s l h => ?_
    obtain ⟨⟨p, rfl⟩, _⟩ := Option.isSome_iff_exists.mp h
    exact ⟨x_brk⟩
theorem soundX (ok : FmOk c n f) (cs : CsOk c) (sy : SyOk c k) (kn : k.names = f.scope.names) (co : CallOk c f cf) (xc : XcOk c fF fS FE SF) (xg : XgOk c) (pb : PB) (l : List Stmt) (hn : f.sc = none ∨ noTry pb = true) (h : chkB k pb l = true) : SoundX c f l (ex cf f.sc w pb) := (soundX0 ok cs sy kn co xc xg pb l hn h).out
end

/-- the defs of the text as the written heap has them, by name -/
structure DefsOk (c : FC) (tbl : String → Option FnDef) (fns ms : List String) (fF fS FE SF : Addr) : Prop where
  cs : CsOk c
  sy : ∀ sn, SyOk c ⟨sn, fns, ms⟩
  fn : ∀ x a, FnAt c x a → ∀ d, tbl x = some d → defOk c.K fns ms a d = true
  meth : ∀ x a, MethAt c x a → ∀ d, tbl ("." ++ x) = some d → defOk c.K fns ms a d = true
  made : makesIn c.K c.C = true
  init : ∃ a d, findIn c.K (.ref c.C) "__init__" = some (some (.ref a)) ∧ isFn c.K (.ref a) = true ∧ tbl ".__init__" = some d ∧ defOk c.K fns ms a d = true
  xc : XcOk c fF fS FE SF
  xg : XgOk c

theorem callOk {c : FC} {tbl : String → Option FnDef} {fns ms : List String} {fF fS FE SF : Addr} {w : Nat} (D : DefsOk c tbl fns ms fF fS FE SF) : ∀ (n : Nat) (f : Fm), FmOk c n f → CallOk c f (callN tbl w n) := by
  intro n
  induction n with
  | zero =>
    intro f ok
    exact ⟨fun x a h => fun I r H => H.elim, fun x a h => fun I r H => H.elim, fun {v u s m nw ad ρ σ Q E} I r H => by
      unfold newV at H
      exact H.elim⟩
  | succ n ih =>
    intro f ok
    have body : ∀ {d : FnDef} {a : Addr} {qn : Str} {sc : Scope} {cd : Value} {b : List Stmt}, DefAt c fns ms a d qn sc cd b → ∀ f' : Fm, FmOk c n f' → f'.scope = sc → f'.sc = none → SoundX c f' b (ex (callN tbl w n) none w d.body) := by
      intro d a qn sc cd b Da f' ok' hsc hs
      have : SoundX c f' b (ex (callN tbl w n) f'.sc w d.body) := soundX (w := w) ok' D.cs (D.sy sc.names) (by rw [hsc]) (ih f' ok') D.xc D.xg d.body b (.inl hs) Da.chk
      rw [hs] at this
      exact @this
    refine ⟨fun x a h => ?_, fun x a h => ?_, ?_⟩
    · cases hd : tbl x with
      | none =>
        intro args us s m nw ad ρ σ Q E I r H
        unfold callN at H
        rw [hd] at H
        exact H.elim
      | some d =>
        obtain ⟨qn, sc, cd, b, Da⟩ := defAt_of (D.fn x a h d hd)
        have h₁ : CallAt c f a _ := callAt_of (w := w) ok Da (body Da)
        intro args us s m nw ad ρ σ Q E I r H
        rw [callN_eq hd] at H
        exact h₁ I r H
    · cases hd : tbl ("." ++ x) with
      | none =>
        intro args us s m nw ad ρ σ Q E I r H
        unfold callN at H
        rw [hd] at H
        exact H.elim
      | some d =>
        obtain ⟨qn, sc, cd, b, Da⟩ := defAt_of (D.meth x a h d hd)
        have h₁ : CallAt c f a _ := callAt_of (w := w) ok Da (body Da)
        intro args us s m nw ad ρ σ Q E I r H
        rw [callN_eq hd] at H
        exact h₁ I r H
    · obtain ⟨a, d, h1, h2, h3, h4⟩ := D.init
      obtain ⟨qn, sc, cd, b, Da⟩ := defAt_of h4
      exact newAt_of ok Da (body Da) D.made h1 h2 fun vs σ => callN_eq h3 vs σ
end Mine
end
section
/-! Soundness, part 24: the written heap is read off by computation; the join. -/
open PySem PySem.W PySem.Calls PyProof.Rows
set_option maxRecDepth 100000
set_option linter.unusedVariables false
namespace Mine

noncomputable def vRefO : (o : Option (Option Value)) → Option {q : Addr // o = some (some (.ref q))}
  | some (some (.ref a)) => some ⟨a, rfl⟩
  | _ => none
noncomputable def vIntO : (o : Option (Option Value)) → Option {q : Int × Tok // o = some (some (.int q.1 q.2))}
  | some (some (.int j t)) => some ⟨(j, t), rfl⟩
  | _ => none
noncomputable def vIntV : (o : Value) → Option {q : Int × Tok // o = .int q.1 q.2}
  | .int j t => some ⟨(j, t), rfl⟩
  | _ => none
noncomputable def vStrV : (o : Value) → Option {q : Str × Tok // o = .str q.1 q.2}
  | .str j t => some ⟨(j, t), rfl⟩
  | _ => none
noncomputable def vSeq : (o : Option Obj) → Option {q : Value × Option Addr × Array Value × Nat × Array (Option Value) // o = some ⟨q.1, q.2.1, .seq q.2.2.1 q.2.2.2.1, q.2.2.2.2⟩}
  | some ⟨c, d, .seq vs n, s⟩ => some ⟨(c, d, vs, n, s), rfl⟩
  | _ => none
noncomputable def vDictO : (o : Option Obj) → Option {q : Value × Array DictEntry × Nat × Array (Option Value) // o = some ⟨q.1, none, .dict q.2.1 q.2.2.1, q.2.2.2⟩}
  | some ⟨c, none, .dict vs n, s⟩ => some ⟨(c, vs, n, s), rfl⟩
  | _ => none
noncomputable def vClsO : (o : Option Obj) → Option {q : Value × Option Addr × ClassData × Array (Option Value) // o = some ⟨q.1, q.2.1, .cls q.2.2.1, q.2.2.2⟩}
  | some ⟨c, d, .cls cd, s⟩ => some ⟨(c, d, cd, s), rfl⟩
  | _ => none
noncomputable def vSl6 : (l : List (Option Value)) → Option {q : Option Value × Option Value × Option Value × Option Value × String × Option Value // l = [q.1, q.2.1, q.2.2.1, q.2.2.2.1, some (.builtin q.2.2.2.2.1), q.2.2.2.2.2]}
  | [a, b, c, d, some (.builtin s), e] => some ⟨(a, b, c, d, s, e), rfl⟩
  | _ => none

noncomputable def fnAddr (K : Frag) (x : String) : Option Addr := (vRefO (nsIn K mainGlobals (Str.ofString x))).bind fun a => if keepIn K (.ref a.1) = true then some a.1 else none
noncomputable def methAddr (K : Frag) (C : Addr) (x : String) : Option Addr := (vRefO (findIn K (.ref C) (Str.ofString x))).bind fun a => if (isFn K (.ref a.1) && keepIn K (.ref a.1)) = true then some a.1 else none
theorem some_if {p : Prop} [Decidable p] {α : Type} {a b : α} (h : (if p then some a else none) = some b) : p ∧ a = b := by
  by_cases hp : p
  · rw [if_pos hp] at h; exact ⟨hp, Option.some.inj h⟩
  · rw [if_neg hp] at h; exact nomatch h
theorem fnAddr_iff {c : FC} {x : String} {a : Addr} : fnAddr c.K x = some a ↔ FnAt c x a := by
  constructor
  · intro h
    obtain ⟨q, _, h⟩ := Option.bind_eq_some_iff.mp h
    obtain ⟨h1, rfl⟩ := some_if h
    exact ⟨q.2, h1⟩
  · rintro ⟨h1, h2⟩
    show (vRefO (nsIn c.K mainGlobals (Str.ofString x))).bind _ = _
    rw [show nsIn c.K mainGlobals (Str.ofString x) = some (some (.ref a)) from h1]
    exact if_pos h2
theorem methAddr_iff {c : FC} {x : String} {a : Addr} : methAddr c.K c.C x = some a ↔ MethAt c x a := by
  constructor
  · intro h
    obtain ⟨q, _, h⟩ := Option.bind_eq_some_iff.mp h
    obtain ⟨h1, rfl⟩ := some_if h
    exact ⟨q.2, and2 h1⟩
  · rintro ⟨h1, h2, h3⟩
    show (vRefO (findIn c.K (.ref c.C) (Str.ofString x))).bind _ = _
    rw [show findIn c.K (.ref c.C) (Str.ofString x) = some (some (.ref a)) from h1]
    exact if_pos (Bool.and_eq_true_iff.mpr ⟨h2, h3⟩)

/-- a method's name has a point ahead -/
noncomputable def tblOk (K : Frag) (C : Addr) (L : List (String × FnDef)) (fns ms : List String) : Bool := L.all fun p =>
  if (p.1.toList.head? == some '.') = true then (nsIn K mainGlobals (Str.ofString p.1) == some none) && (methAddr K C (String.ofList p.1.toList.tail)).any fun a => defOk K fns ms a p.2
  else (fnAddr K p.1).any fun a => defOk K fns ms a p.2

noncomputable def gintOk (K : Frag) (x : String) (i : Int) : Bool := vok (vIntO (nsIn K mainGlobals (Str.ofString x))) fun q => q.1 == i
noncomputable def tupEnts (K : Frag) (x : String) : Option (Addr × List Value) := (vRefO (nsIn K mainGlobals (Str.ofString x))).bind fun a => (vSeq (K.lookup a.1)).bind fun q => if (q.1.1 == .type "tuple") = true then some (a.1, q.1.2.2.1.toList) else none
noncomputable def dictEnts (K : Frag) (x : String) : Option (Addr × List DictEntry) := (vRefO (nsIn K mainGlobals (Str.ofString x))).bind fun a => (vDictO (K.lookup a.1)).bind fun q => if (q.1.1 == .type "dict" && q.1.2.2.2.isEmpty) = true then some (a.1, q.1.2.1.toList) else none
noncomputable def isPV : PV → Value → Bool
  | .int i, v => vok (vIntV v) fun q => q.1 == i
  | .str x, v => vok (vStrV v) fun q => q.1 == Str.ofString x
  | _, _ => false
theorem isPV_str {x : String} {u : Value} (h : isPV (.str x) u = true) : ∃ t, u = .str (S x) t := by
  obtain ⟨⟨y, t⟩, h1, h2⟩ := vok_inv (o := vStrV u) (f := fun q => q.1 == Str.ofString x) h
  obtain rfl : y = _ := beq_iff_eq.mp h2
  exact ⟨t, h1⟩
theorem isPV_VR {ad : Ads} {nw : Led} {v : PV} {u : Value} (h : isPV v u = true) : VR ad nw v u := by
  cases v with
  | int i =>
    obtain ⟨⟨j, t⟩, h1, h2⟩ := vok_inv (o := vIntV u) (f := fun q => q.1 == i) h
    obtain rfl : j = i := beq_iff_eq.mp h2
    rw [h1]
    exact .int j t
  | str x =>
    obtain ⟨t, rfl⟩ := isPV_str h
    exact .str x _
  | _ => exact nomatch h
noncomputable def allPV : List PV → List Value → Bool
  | [], l => l.isEmpty
  | v :: l, us => kCons us fun u us => isPV v u && allPV l us
theorem allPV_VR {ad : Ads} {nw : Led} : ∀ {l : List PV} {us : List Value}, allPV l us = true → VRs ad nw l us
  | [], us, h => by
    obtain rfl := isEmpty_inv h
    exact .nil
  | v :: l, us, h => by
    obtain ⟨u, us, rfl, h1⟩ := kCons_inv (l := us) (f := fun u us => isPV v u && allPV l us) h
    exact .cons (isPV_VR (and2 h1).1) (allPV_VR (and2 h1).2)
/-- the entries, but for the hashes -/
noncomputable def entsOk : List (String × PV) → List DictEntry → Bool
  | [], es => es.isEmpty
  | p :: l, es => kCons es fun e es => isPV (.str p.1) e.key && isPV p.2 e.val && entsOk l es
noncomputable def hashed (P : Params) : List (String × PV) → List DictEntry → List DictEntry
  | p :: l, e :: es => ⟨PyData.keyHash P (Str.ofString p.1), e.key, e.val⟩ :: hashed P l es
  | _, _ => []
theorem ents_DR {P : Params} {ad : Ads} {nw : Led} : ∀ {l : List (String × PV)} {es : List DictEntry}, entsOk l es = true → es = hashed P l es → DR P ad nw l es
  | [], es, h, _ => by
    obtain rfl := isEmpty_inv h
    exact .nil
  | (k, v) :: l, es, h, hh => by
    obtain ⟨e, es, rfl, h1⟩ := kCons_inv (l := es) (f := fun e es => isPV (.str k) e.key && isPV v e.val && entsOk l es) h
    have hh : e :: es = ⟨PyData.keyHash P (Str.ofString k), e.key, e.val⟩ :: hashed P l es := hh
    obtain ⟨hh1, hh2⟩ := List.cons.inj hh
    obtain ⟨t, ht⟩ := isPV_str (and2 (and2 h1).1).1
    rw [hh1, ht]
    exact .cons (isPV_VR (and2 (and2 h1).1).2) (ents_DR (and2 h1).2 hh2)

/-- all that is read off the written heap but the hashes -/
noncomputable def csOk (K : Frag) (C : Addr) : Bool :=
  findIn K (.ref C) "__getattribute__" == some (some (.builtin "object.__getattribute__")) && findIn K (.ref C) "__getattr__" == some none && hasDictIn K C &&
    findIn K (.ref C) "__setattr__" == some (some (.builtin "object.__setattr__")) && plainOver K C && attrNames.all (fun x => findIn K (.ref C) (Str.ofString x) == some none && takerIn K C (Str.ofString x) == some none) && makesIn K C &&
    nsIn K mainGlobals (Str.ofString "ExprParser") == some (some (.ref C)) && keepIn K (.ref C)
noncomputable def syOk (K : Frag) (C : Addr) (fns ms : List String) : Bool :=
  fns.all (fun x => (fnAddr K x).isSome) && ms.all (fun x => (methAddr K C x).isSome) && gintOk K "MOST_DEPTH" 40 && gintOk K "RIGHT_LEVEL" 12 && ["len", "list", "tuple", "abs", "range"].all (fun x => nsIn K mainGlobals (Str.ofString x) == some none) &&
    (tupEnts K "SINGLE_LEVELS").any (fun p => allPV [.int 5, .int 6, .int 8] p.2) && (dictEnts K "LEVELS").any (fun p => entsOk (levelsTab.map fun p => (p.1, .int p.2)) p.2 && !(p.1 == sysModules)) &&
    (dictEnts K "BASES").any (fun p => entsOk (basesTab.map fun p => (p.1, .str p.2)) p.2 && !(p.1 == sysModules))
noncomputable def dictHash (P : Params) (K : Frag) (x : String) (l : List (String × PV)) : Option (List DictEntry) := (dictEnts K x).map fun p => hashed P l p.2
noncomputable def xcOk (K : Frag) (file : Str) (top : List (Str × NameKind)) (TF fF fS FE SF : Addr) : Bool :=
  (vok (vClsO (K.lookup TF)) fun q => q.1 == .type "type" && (kCons q.2.2.1.mro fun m bm => m == .ref TF && bm.contains (.type "Exception") && bm.contains (.type "BaseException") && !bm.contains (.type "AttributeError") && !bm.contains (.type "NameError")) &&
    (vok (vSl6 q.2.2.2.toList) fun r => r.2.2.2.2.1 == "Exception.__new__") && !q.2.2.1.hasDel && excMro q.2.2.1.mro && q.2.2.1.hasDict) &&
  findIn K (.ref TF) "__setattr__" == some (some (.builtin "object.__setattr__")) && takerIn K TF (Str.ofString "what") == some none && takerIn K TF (Str.ofString "spot") == some none &&
  mroIn K TF (.type "Exception") == some true && mroIn K TF (.type "BaseException") == some true && mroIn K TF (.ref FE) == some true && mroIn K TF (.ref SF) == some true &&
  nsIn K cStatics "thirdparty.any" == some none && nsIn K mainGlobals "super" == some none && !(top.lookup ("super" : Str)).isSome &&
  ks_superIn K TF FE "__init__" == some (some (.builtin "Exception.__init__")) && ks_superIn K TF SF "__init__" == some (some (.ref fF)) && findIn K (.ref TF) "__init__" == some (some (.ref fS)) &&
  isFn K (.ref fF) && isFn K (.ref fS) && fnIn K fF && nsIn K mainGlobals (Str.ofString "TextFault") == some (some (.ref TF)) && keepIn K (.ref TF) &&
  initOk K file fF FE "what" ["self", "what"] && initOk K file fS SF "spot" ["self", "what", "spot"] &&
  findIn K (.ref TF) "__getattribute__" == some (some (.builtin "BaseException.__getattribute__")) && findIn K (.ref TF) "__getattr__" == some none &&
  findIn K (.ref TF) (Str.ofString "what") == some none && findIn K (.ref TF) (Str.ofString "spot") == some none && hasDictIn K TF

theorem any_of {α : Type} {o : Option α} {p : α → Bool} (h : o.any p = true) : ∃ a, o = some a ∧ p a = true := by
  cases o with
  | none => cases h
  | some a => exact ⟨a, rfl, h⟩

theorem topDict_of {c : FC} {x : String} {l : List (String × PV)} (h : (dictEnts c.K x).any (fun p => entsOk l p.2 && !(p.1 == sysModules)) = true) (hh : (dictEnts c.K x).map (·.2) = dictHash c.w.params c.K x l) : TopDict c x l := by
  obtain ⟨⟨a, es⟩, e1, e2⟩ := any_of h
  unfold dictHash at hh
  rw [e1] at hh
  obtain ⟨q, _, e1⟩ := Option.bind_eq_some_iff.mp e1
  obtain ⟨⟨r, hr⟩, _, e1⟩ := Option.bind_eq_some_iff.mp e1
  obtain ⟨h1, h2⟩ := some_if e1
  cases h2
  exact ⟨q.1, r.2.1.toList, r.2.2.1, q.2, by rw [hr, beq_iff_eq.mp (and2 h1).1, Array.isEmpty_iff.mp (and2 h1).2], ents_DR (and2 e2).1 (Option.some.inj hh), not_inv (and2 e2).2⟩
theorem topTup_of {c : FC} {x : String} {l : List PV} (h : (tupEnts c.K x).any (fun p => allPV l p.2) = true) : TopTup c x l := by
  obtain ⟨⟨a, es⟩, e1, e2⟩ := any_of h
  obtain ⟨q, _, e1⟩ := Option.bind_eq_some_iff.mp e1
  obtain ⟨⟨r, hr⟩, _, e1⟩ := Option.bind_eq_some_iff.mp e1
  obtain ⟨h1, h2⟩ := some_if e1
  cases h2
  exact ⟨q.1, r.2.2.1.toList, r.2.1, r.2.2.2.1, r.2.2.2.2, q.2, by rw [hr, beq_iff_eq.mp h1], allPV_VR e2⟩

theorem mem_of_lookup {x : String} {d : FnDef} : ∀ {L : List (String × FnDef)}, L.lookup x = some d → (x, d) ∈ L
  | [], h => by cases h
  | (y, e) :: r, h => by
    rw [List.lookup_cons] at h
    split at h
    · rename_i q
      rw [beq_iff_eq] at q
      cases h; subst q; exact .head _
    · exact .tail _ (mem_of_lookup h)

theorem tf_of {K : Frag} {TF : Addr} (h : (vok (vClsO (K.lookup TF)) fun q => q.1 == .type "type" && (kCons q.2.2.1.mro fun m bm => m == .ref TF && bm.contains (.type "Exception") && bm.contains (.type "BaseException") && !bm.contains (.type "AttributeError") && !bm.contains (.type "NameError")) &&
    (vok (vSl6 q.2.2.2.toList) fun r => r.2.2.2.2.1 == "Exception.__new__") && !q.2.2.1.hasDel && excMro q.2.2.1.mro && q.2.2.1.hasDict) = true) :
    (∃ nm q N bs bm hdct sn sub ab col dd k0 k1 k2 k3 k5, K.lookup TF = some (excClassObj nm q TF N bs bm hdct sn sub ab col dd k0 k1 k2 k3 k5 "Exception.__new__") ∧ ExcTail bm) ∧ ∃ cd, clsIn K TF = some cd ∧ excMro cd.mro = true ∧ cd.hasDict = true := by
  obtain ⟨r, ho, h⟩ := vok_inv h
  have f := and2 h
  have f2 := and2 f.1
  have f3 := and2 f2.1
  have f4 := and2 f3.1
  have f5 := and2 f4.1
  obtain ⟨m, bm, hm, h⟩ := kCons_inv f5.2
  have g := and2 h
  have g2 := and2 g.1
  have g3 := and2 g2.1
  have g4 := and2 g3.1
  obtain ⟨k, hs, h'⟩ := vok_inv f4.2
  have hs' : r.2.2.2 = #[k.1, k.2.1, k.2.2.1, k.2.2.2.1, some (.builtin "Exception.__new__"), k.2.2.2.2.2] := Array.ext' (by rw [hs, beq_iff_eq.mp h'])
  refine ⟨⟨r.2.2.1.name, r.2.2.1.qualname, r.2.2.1.ns, r.2.2.1.bases, bm, r.2.2.1.hasDict, r.2.2.1.slotNames, r.2.2.1.subclasses, r.2.2.1.abstract, r.2.2.1.collection, r.2.1, k.1, k.2.1, k.2.2.1, k.2.2.2.1, k.2.2.2.2.2, ?_, g4.2, g3.2, not_inv g2.2, not_inv g.2⟩, r.2.2.1, by unfold clsIn; rw [ho], f2.2, f.2⟩
  unfold excClassObj
  rw [ho, hs', beq_iff_eq.mp f5.1, ← not_inv f3.2, ← beq_iff_eq.mp g4.1, ← hm]

theorem gintT_some {x : String} {i : Int} (h : gintT x = some i) : (x = "MOST_DEPTH" ∧ i = 40) ∨ (x = "RIGHT_LEVEL" ∧ i = 12) := by
  unfold gintT at h
  split at h
  · cases h; exact .inl ⟨rfl, rfl⟩
  · cases h; exact .inr ⟨rfl, rfl⟩
  · cases h
theorem gtup_some {x : String} {i : List PV} (h : gtup x = some i) : x = "SINGLE_LEVELS" ∧ i = [.int 5, .int 6, .int 8] := by
  unfold gtup at h
  split at h
  · cases h; exact ⟨rfl, rfl⟩
  · cases h
theorem gdict_some {x : String} {i : List (String × PV)} (h : gdict x = some i) : (x = "LEVELS" ∧ i = levelsTab.map fun p => (p.1, .int p.2)) ∨ (x = "BASES" ∧ i = basesTab.map fun p => (p.1, .str p.2)) := by
  unfold gdict at h
  split at h
  · cases h; exact .inl ⟨rfl, rfl⟩
  · cases h; exact .inr ⟨rfl, rfl⟩
  · cases h
theorem defsOk_of {c : FC} {L : List (String × FnDef)} {fns ms : List String} {fF fS FE SF : Addr} (h1 : csOk c.K c.C = true) (h2 : syOk c.K c.C fns ms = true) (h3 : tblOk c.K c.C L fns ms = true)
    (h4 : (dictEnts c.K "LEVELS").map (·.2) = dictHash c.w.params c.K "LEVELS" (levelsTab.map fun p => (p.1, .int p.2))) (h5 : (dictEnts c.K "BASES").map (·.2) = dictHash c.w.params c.K "BASES" (basesTab.map fun p => (p.1, .str p.2)))
    (h6 : xcOk c.K c.prog.main.file c.prog.main.scope.names c.TF fF fS FE SF = true) (h7 : ∃ d, L.lookup ".__init__" = some d) : DefsOk c (fun x => L.lookup x) fns ms fF fS FE SF := by
  replace h1 := and2 h1
  obtain ⟨h1, a9⟩ := h1
  replace h1 := and2 h1
  obtain ⟨h1, a8⟩ := h1
  replace h1 := and2 h1
  obtain ⟨h1, a7⟩ := h1
  replace h1 := and2 h1
  obtain ⟨h1, a6⟩ := h1
  replace h1 := and2 h1
  obtain ⟨h1, a5⟩ := h1
  replace h1 := and2 h1
  obtain ⟨h1, a4⟩ := h1
  replace h1 := and2 h1
  obtain ⟨h1, a3⟩ := h1
  replace h1 := and2 h1
  obtain ⟨a1, a2⟩ := h1
  replace h2 := and2 h2
  obtain ⟨h2, b8⟩ := h2
  replace h2 := and2 h2
  obtain ⟨h2, b7⟩ := h2
  replace h2 := and2 h2
  obtain ⟨h2, b6⟩ := h2
  replace h2 := and2 h2
  obtain ⟨h2, b5⟩ := h2
  replace h2 := and2 h2
  obtain ⟨h2, b4⟩ := h2
  replace h2 := and2 h2
  obtain ⟨h2, b3⟩ := h2
  replace h2 := and2 h2
  obtain ⟨b1, b2⟩ := h2
  replace h6 := and2 h6
  obtain ⟨h6, d26⟩ := h6
  replace h6 := and2 h6
  obtain ⟨h6, d25⟩ := h6
  replace h6 := and2 h6
  obtain ⟨h6, d24⟩ := h6
  replace h6 := and2 h6
  obtain ⟨h6, d23⟩ := h6
  replace h6 := and2 h6
  obtain ⟨h6, d22⟩ := h6
  replace h6 := and2 h6
  obtain ⟨h6, d21⟩ := h6
  replace h6 := and2 h6
  obtain ⟨h6, d20⟩ := h6
  replace h6 := and2 h6
  obtain ⟨h6, d19⟩ := h6
  replace h6 := and2 h6
  obtain ⟨h6, d18⟩ := h6
  replace h6 := and2 h6
  obtain ⟨h6, d17⟩ := h6
  replace h6 := and2 h6
  obtain ⟨h6, d16⟩ := h6
  replace h6 := and2 h6
  obtain ⟨h6, d15⟩ := h6
  replace h6 := and2 h6
  obtain ⟨h6, d14⟩ := h6
  replace h6 := and2 h6
  obtain ⟨h6, d13⟩ := h6
  replace h6 := and2 h6
  obtain ⟨h6, d12⟩ := h6
  replace h6 := and2 h6
  obtain ⟨h6, d11⟩ := h6
  replace h6 := and2 h6
  obtain ⟨h6, d10⟩ := h6
  replace h6 := and2 h6
  obtain ⟨h6, d9⟩ := h6
  replace h6 := and2 h6
  obtain ⟨h6, d8⟩ := h6
  replace h6 := and2 h6
  obtain ⟨h6, d7⟩ := h6
  replace h6 := and2 h6
  obtain ⟨h6, d6⟩ := h6
  replace h6 := and2 h6
  obtain ⟨h6, d5⟩ := h6
  replace h6 := and2 h6
  obtain ⟨h6, d4⟩ := h6
  replace h6 := and2 h6
  obtain ⟨h6, d3⟩ := h6
  replace h6 := and2 h6
  obtain ⟨h6, d2⟩ := h6
  have gint : ∀ {x : String} {i : Int}, gintOk c.K x i = true → ∃ t, nsIn c.K mainGlobals (S x) = some (some (.int i t)) := by
    intro x i h
    obtain ⟨⟨j, t⟩, h1, h2⟩ := vok_inv (o := vIntO (nsIn c.K mainGlobals (Str.ofString x))) (f := fun q => q.1 == i) h
    obtain rfl : j = i := beq_iff_eq.mp h2
    exact ⟨t, h1⟩
  have tbl := List.all_eq_true.mp h3
  have meth : ∀ x d, L.lookup ("." ++ x) = some d → ∃ a, methAddr c.K c.C x = some a ∧ defOk c.K fns ms a d = true := by
    intro x d hd
    have := tbl _ (mem_of_lookup hd)
    have e : ("." ++ x).toList = '.' :: x.toList := String.toList_append
    dsimp only at this
    rw [e, if_pos (show (('.' :: x.toList).head? == some '.') = true from rfl)] at this
    have := any_of (and2 this).2
    rw [List.tail_cons, String.ofList_toList] at this
    exact this
  have e1 := fun {x y} (h : (x == y) = true) => (beq_iff_eq.mp h : x = (y : Option (Option Value)))
  have e2 := fun {x y} (h : (x == y) = true) => (beq_iff_eq.mp h : x = (y : Option Bool))
  refine ⟨⟨fun _ => ?_, a3, e1 a4, a5, fun x hx => ?_⟩, fun sn => ⟨fun x hx => ?_, fun x hx => ?_, fun x i hx => ?_, fun x l hx => ?_, fun x l hx => ?_, fun x hx => e1 (List.all_eq_true.mp b5 x hx), e1 a8, a9⟩, fun x a ha d hd => ?_, fun x a ha d hd => ?_, a7, ?_, ?_, ⟨e1 d22, e1 d23, e1 d24, e1 d25, d26⟩⟩
  · unfold plainGet
    rw [e1 a1, e1 a2]; rfl
  · have := and2 (List.all_eq_true.mp a6 x hx)
    exact ⟨e1 this.1, e1 this.2⟩
  · obtain ⟨a, ha⟩ := Option.isSome_iff_exists.mp (List.all_eq_true.mp b1 x hx)
    exact ⟨a, fnAddr_iff.mp ha⟩
  · obtain ⟨a, ha⟩ := Option.isSome_iff_exists.mp (List.all_eq_true.mp b2 x hx)
    exact ⟨a, methAddr_iff.mp ha⟩
  · rcases gintT_some hx with ⟨rfl, rfl⟩ | ⟨rfl, rfl⟩
    · exact gint b3
    · exact gint b4
  · obtain ⟨rfl, rfl⟩ := gtup_some hx
    exact topTup_of b6
  · rcases gdict_some hx with ⟨rfl, rfl⟩ | ⟨rfl, rfl⟩
    · exact topDict_of b7 h4
    · exact topDict_of b8 h5
  · have := tbl _ (mem_of_lookup hd)
    dsimp only at this
    by_cases hc : (x.toList.head? == some '.') = true
    · rw [if_pos hc] at this
      have h := ha.1
      rw [show nsIn c.K mainGlobals (S x) = some none from e1 (and2 this).1] at h
      exact nomatch h
    · rw [if_neg hc] at this
      obtain ⟨b, hb, hok⟩ := any_of this
      obtain rfl : a = b := Option.some.inj ((fnAddr_iff.mpr ha).symm.trans hb)
      exact hok
  · obtain ⟨b, hb, hok⟩ := meth x d hd
    obtain rfl : a = b := Option.some.inj ((methAddr_iff.mpr ha).symm.trans hb)
    exact hok
  · obtain ⟨d, hd⟩ := h7
    obtain ⟨b, hb, hok⟩ := meth "__init__" d hd
    have hm := methAddr_iff.mp hb
    exact ⟨b, d, hm.1, hm.2.1, hd, hok⟩
  · have hT := tf_of h6
    exact ⟨hT.1, hT.2, e1 d2, e1 d3, e1 d4, e2 d5, e2 d6, e2 d7, e2 d8, e1 d9, e1 d10, not_inv d11, e1 d12, e1 d13, e1 d14, d15, d16, d17, e1 d18, d19, d20, d21⟩

/-- the join: the walk of the law's own frame -/
theorem join {c : FC} {L : List (String × FnDef)} {fns ms : List String} {fF fS FE SF : Addr} (D : DefsOk c (fun x => L.lookup x) fns ms fF fS FE SF) {name : Str} {scope : Scope} {Lc a : Addr} {cd : Value} {ns : List Int} {vs : List Value} {l : Addr} {m : Str → Option Value} {s : Shared} {lawD : FnDef} {body : List Stmt} {w : Nat}
    (X : c.K.In c.base) (T : TopRead c.p c.loose c.mg c.mb c.base) (F : Fr c.base Lc s.heap m) (hk : scope.kind = .function) (hm : m (S "script") = some (.ref l)) (hl : c.base.IsList l vs.toArray) (hi : IntsAre vs ns) (hlen : ns.length ≤ 1000)
    (chk : chkB ⟨scope.names, fns, ms⟩ lawD.body body = true) (nt : noTry lawD.body = true) (pure_ : ∃ ρ σ, ex (callN (fun x => L.lookup x) w 80) (some ns) w lawD.body Loc.empty [] = .ok (.ret (.bool true), ρ) σ)
    {Q : Flow → Shared → Prop} {E : Value → Shared → Prop} (hQ : ∀ h' tk m', Fr c.base Lc h' m' → Q (.ret (.bool true)) { s with heap := h', toks := tk }) :
    wpAny (model c.prog c.w) (callerA.deeper (envOf name scope Lc a cd)) (execs body (envOf name scope Lc a cd)) Q E s := by
  obtain ⟨ρ, σ, he⟩ := pure_
  have ok : FmOk c 80 ⟨callerA, [], name, scope, Lc, a, cd, some ns⟩ := ⟨rfl, rfl, hk, by show 1 + claimMargin + 8 * 80 + 20 < recursionLimit; decide, by show 4 + 40 * 80 + 200 < cLine; decide, X, T⟩
  have I : Inv c ⟨callerA, [], name, scope, Lc, a, cd, some ns⟩ m [] [] Loc.empty [] s.heap :=
    ⟨F, News.nil, .nil, (fun _ h => nomatch h), (fun _ _ h => nomatch h), ⟨rfl, fun i po q h => by simp at h⟩, fun i j q r h => by simp at h, ⟨l, vs, hm, hl, hi, hlen⟩⟩
  refine soundX (f := ⟨callerA, [], name, scope, Lc, a, cd, some ns⟩) (w := w) ok D.cs (D.sy scope.names) rfl (callOk (w := w) D 80 _ ok) D.xc D.xg lawD.body body (.inr nt) chk I ?_
  show PostS FR c _ [] [] s Q E (ex (callN (fun x => L.lookup x) w 80) (some ns) w lawD.body Loc.empty [])
  rw [he]
  rintro h' tk m' nw' ad' u I' X' ⟨y, rfl, r⟩
  cases r
  exact hQ h' tk m' I'.F
end Mine
end
section
/-! Steps of the pure interpreter, each by definition. -/
set_option maxRecDepth 100000
namespace Mine
theorem bindE {α β : Type} {r : Res α} {a : α} {σ : Hp} {f : α → Hp → Res β} (h : r = .ok a σ) : r.bind f = f a σ := by rw [h]; rfl
theorem bindX {α β : Type} {r : Res α} {x : String} {i : Int} {σ : Hp} {f : α → Hp → Res β} (h : r = .err x i σ) : r.bind f = .err x i σ := by rw [h]; rfl
theorem okInt_ok {i : Int} {σ : Hp} (h : i.natAbs ≤ 1000000000000) : okInt i σ = .ok (.int i) σ := if_pos h

section
variable {cf : CF} {sc : Option (List Int)} {ρ : Loc} {σ σ₁ σ₂ σ₃ : Hp} {a b c : PE} {v u : PV} {l : List PV} {x m f : String} {i : Int} {t : Bool}
theorem testR_eq {r : Res PV} (h : r = .ok (.bool t) σ) : testR r = .ok t σ := by rw [h]; rfl
theorem ev_loc (h : ρ x = some v) : ev cf sc (.loc x) ρ σ = .ok v σ := by
  show (match ρ x with | some v => Res.ok v σ | Option.none => .stuck) = _
  rw [h]
theorem ev_gint (h : gintT x = some i) : ev cf sc (.gint x) ρ σ = .ok (.int i) σ := by
  show (match gintT x with | some i => Res.ok (PV.int i) σ | Option.none => .stuck) = _
  rw [h]
theorem ev_anil : ev cf sc .anil ρ σ = .ok (.tup []) σ := rfl
theorem ev_acons (h : ev cf sc a ρ σ = .ok v σ₁) (h2 : ev cf sc b ρ σ₁ = .ok (.tup l) σ₂) : ev cf sc (.acons a b) ρ σ = .ok (.tup (v :: l)) σ₂ := (bindE h).trans (bindE h2)
theorem ev_acons_err (h : ev cf sc a ρ σ = .err m i σ₁) : ev cf sc (.acons a b) ρ σ = .err m i σ₁ := bindX h
theorem ev_acons_err2 (h : ev cf sc a ρ σ = .ok v σ₁) (h2 : ev cf sc b ρ σ₁ = .err m i σ₂) : ev cf sc (.acons a b) ρ σ = .err m i σ₂ := (bindE h).trans (bindX h2)
theorem ev_tup (h : ev cf sc a ρ σ = .ok (.tup l) σ₁) (hl : l.length ≤ 100000) : ev cf sc (.tup a) ρ σ = .ok (.tup l) σ₁ := (bindE h).trans (if_pos hl)
theorem ev_tup_err (h : ev cf sc a ρ σ = .err m i σ₁) : ev cf sc (.tup a) ρ σ = .err m i σ₁ := bindX h
theorem ev_listE (h : ev cf sc a ρ σ = .ok (.tup l) σ₁) (hl : l.length ≤ 100000) : ev cf sc (.list a) ρ σ = .ok (.obj σ₁.length) (σ₁ ++ [.list l]) := (bindE h).trans (if_pos hl)
theorem ev_list_err (h : ev cf sc a ρ σ = .err m i σ₁) : ev cf sc (.list a) ρ σ = .err m i σ₁ := bindX h
theorem ev_sub (h : ev cf sc a ρ σ = .ok v σ₁) (h2 : ev cf sc b ρ σ₁ = .ok u σ₂) : ev cf sc (.sub a b) ρ σ = subV v u σ₂ := (bindE h).trans (bindE h2)
theorem ev_bin {op : AOp} (h : ev cf sc a ρ σ = .ok v σ₁) (h2 : ev cf sc b ρ σ₁ = .ok u σ₂) : ev cf sc (.bin op a b) ρ σ = binV op v u σ₂ := (bindE h).trans (bindE h2)
theorem ev_cmp {op : COp} (h : ev cf sc a ρ σ = .ok v σ₁) (h2 : ev cf sc b ρ σ₁ = .ok u σ₂) : ev cf sc (.cmp op a b) ρ σ = cmpV op v u σ₂ := (bindE h).trans (bindE h2)
theorem ev_isin {neg r : Bool} (h : ev cf sc a ρ σ = .ok v σ₁) (h2 : ev cf sc b ρ σ₁ = .ok (.tup l) σ₂) (h3 : inL v l = some r) : ev cf sc (.isin neg a b) ρ σ = .ok (.bool (r != neg)) σ₂ := by
  refine (bindE h).trans ((bindE h2).trans ?_)
  show (match inL v l with | some r => Res.ok (PV.bool (r != neg)) σ₂ | Option.none => .stuck) = _
  rw [h3]
theorem ev_and_t (h : ev cf sc a ρ σ = .ok (.bool true) σ₁) : ev cf sc (.and a b) ρ σ = ev cf sc b ρ σ₁ := bindE (testR_eq h)
theorem ev_and_f (h : ev cf sc a ρ σ = .ok (.bool false) σ₁) : ev cf sc (.and a b) ρ σ = .ok (.bool false) σ₁ := bindE (testR_eq h)
theorem ev_or_t (h : ev cf sc a ρ σ = .ok (.bool true) σ₁) : ev cf sc (.or a b) ρ σ = .ok (.bool true) σ₁ := bindE (testR_eq h)
theorem ev_or_f (h : ev cf sc a ρ σ = .ok (.bool false) σ₁) : ev cf sc (.or a b) ρ σ = ev cf sc b ρ σ₁ := bindE (testR_eq h)
theorem ev_not (h : ev cf sc a ρ σ = .ok (.bool t) σ₁) : ev cf sc (.not a) ρ σ = .ok (.bool (!t)) σ₁ := bindE (testR_eq h)
theorem ev_notT (h : ev cf sc a ρ σ = .ok (.bool true) σ₁) : ev cf sc (.not a) ρ σ = .ok (.bool false) σ₁ := bindE (testR_eq h)
theorem ev_notF (h : ev cf sc a ρ σ = .ok (.bool false) σ₁) : ev cf sc (.not a) ρ σ = .ok (.bool true) σ₁ := bindE (testR_eq h)
theorem ev_ite_t (h : ev cf sc c ρ σ = .ok (.bool true) σ₁) : ev cf sc (.ite c a b) ρ σ = ev cf sc a ρ σ₁ := bindE (testR_eq h)
theorem ev_ite_f (h : ev cf sc c ρ σ = .ok (.bool false) σ₁) : ev cf sc (.ite c a b) ρ σ = ev cf sc b ρ σ₁ := bindE (testR_eq h)
theorem ev_attr (h : ev cf sc a ρ σ = .ok v σ₁) : ev cf sc (.attr a x) ρ σ = attrV v x σ₁ := bindE h
theorem ev_len (h : ev cf sc a ρ σ = .ok v σ₁) : ev cf sc (.len a) ρ σ = lenV v σ₁ := bindE h
theorem ev_tupleOf {n : Nat} (h : ev cf sc a ρ σ = .ok (.obj n) σ₁) (hl : listAt σ₁ n = some l) : ev cf sc (.tupleOf a) ρ σ = .ok (.tup l) σ₁ := by
  refine (bindE h).trans ?_
  show (match listAt σ₁ n with | some l => Res.ok (PV.tup l) σ₁ | Option.none => .stuck) = _
  rw [hl]
theorem ev_call (h : ev cf sc a ρ σ = .ok (.tup l) σ₁) : ev cf sc (.call x a) ρ σ = cf x l σ₁ := bindE h
theorem ev_meth {n : Nat} {es : List (String × PV)} (h : ev cf sc a ρ σ = .ok (.obj n) σ₁) (hi : instAt σ₁ n = some es) (hf : getKey f es = Option.none) (h2 : ev cf sc b ρ σ₁ = .ok (.tup l) σ₂) : ev cf sc (.meth a f b) ρ σ = cf ("." ++ f) (.obj n :: l) σ₂ := by
  refine (bindE h).trans ?_
  show (match instAt σ₁ n with | some l => if (getKey f l).isNone = true then (ev cf sc b ρ σ₁).bind fun vs σ => cf ("." ++ f) (.obj n :: argsOf vs) σ else .stuck | Option.none => .stuck) = _
  rw [hi]
  exact (if_pos (by rw [hf]; rfl)).trans (bindE h2)
theorem appendV_ok {n : Nat} {l : List PV} (hl : listAt σ n = some l) (hn : l.length ≤ 100000) : appendV (.obj n) v σ = .ok .none (σ.set n (.list (l ++ [v]))) := by
  show (match listAt σ n with | some l => if l.length ≤ 100000 then Res.ok PV.none (σ.set n (.list (l ++ [v]))) else .stuck | Option.none => .stuck) = _
  rw [hl]
  exact if_pos hn
theorem ev_append {n : Nat} {k : List PV} (hx : ρ x = some (.obj n)) (hk : listAt σ n = some k) (h : ev cf sc a ρ σ = .ok v σ₁) (hl : listAt σ₁ n = some l) (hn : l.length ≤ 100000) : ev cf sc (.append (.loc x) a) ρ σ = .ok .none (σ₁.set n (.list (l ++ [v]))) := by
  refine (bindE (ev_loc hx)).trans ((if_pos ?_).trans ((bindE h).trans (appendV_ok hl hn)))
  show (listAt σ n).isSome = true
  rw [hk]; rfl
theorem ev_append_err {n : Nat} {k : List PV} (hx : ρ x = some (.obj n)) (hk : listAt σ n = some k) (h : ev cf sc a ρ σ = .err m i σ₁) : ev cf sc (.append (.loc x) a) ρ σ = .err m i σ₁ := by
  refine (bindE (ev_loc hx)).trans ((if_pos ?_).trans (bindX h))
  show (listAt σ n).isSome = true
  rw [hk]; rfl
theorem ev_popL {n : Nat} (hx : ρ x = some (.obj n)) (hl : σ[n]? = some (.list (l ++ [v]))) : ev cf sc (.pop (.loc x)) ρ σ = .ok v (σ.set n (.list l)) := by
  have h : listAt σ n = some (l ++ [v]) := by unfold listAt; rw [hl]
  refine (bindE (ev_loc hx)).trans ?_
  show (match listAt σ n with | some l => (match l.getLast? with | some v => Res.ok v (σ.set n (.list l.dropLast)) | Option.none => .stuck) | Option.none => .stuck) = _
  rw [h]
  show (match (l ++ [v]).getLast? with | some v' => Res.ok v' (σ.set n (.list (l ++ [v]).dropLast)) | Option.none => .stuck) = _
  rw [List.getLast?_concat, List.dropLast_concat]
end

theorem instAt_of {σ : Hp} {n : Nat} {l : List (String × PV)} (h : σ[n]? = some (.inst l)) : instAt σ n = some l := by unfold instAt; rw [h]
theorem listAt_of {σ : Hp} {n : Nat} {l : List PV} (h : σ[n]? = some (.list l)) : listAt σ n = some l := by unfold listAt; rw [h]
theorem seqAt_of {σ : Hp} {n : Nat} {l : List PV} (h : σ[n]? = some (.list l)) : seqAt σ n = some l := by unfold seqAt; rw [h]
theorem seqAt_ofR {σ : Hp} {n : Nat} {l : List PV} (h : σ[n]? = some (.rlist l)) : seqAt σ n = some l := by unfold seqAt; rw [h]
theorem dictAt_of {σ : Hp} {n : Nat} {l : List (String × PV)} (h : σ[n]? = some (.dict l)) : dictAt σ n = some l := by unfold dictAt; rw [h]
section
variable {σ : Hp} {n : Nat} {x : String} {v : PV} {es : List (String × PV)} {l : List PV}
theorem attrV_ok (h : instAt σ n = some es) (hk : getKey x es = some v) : attrV (.obj n) x σ = .ok v σ := by
  show (match instAt σ n with | some l => (match getKey x l with | some v => Res.ok v σ | Option.none => .stuck) | Option.none => .stuck) = _
  rw [h]
  show (match getKey x es with | some v => Res.ok v σ | Option.none => .stuck) = _
  rw [hk]
theorem setAttrV_ok (h : instAt σ n = some es) (hl : es.length ≤ 100) : setAttrV (.obj n) x v σ = .ok () (σ.set n (.inst (putKey x v es))) := by
  show (match instAt σ n with | some l => if l.length ≤ 100 then Res.ok () (σ.set n (.inst (putKey x v l))) else .stuck | Option.none => .stuck) = _
  rw [h]
  exact if_pos hl
theorem setItemV_ok (h : dictAt σ n = some es) (hk : (getKey x es).isSome = true) : setItemV (.obj n) x v σ = .ok () (σ.set n (.dict (putKey x v es))) := by
  show (match dictAt σ n with | some l => if (getKey x l).isSome = true then Res.ok () (σ.set n (.dict (putKey x v l))) else .stuck | Option.none => .stuck) = _
  rw [h]
  exact if_pos hk
theorem lenV_ok (h : seqAt σ n = some l) : lenV (.obj n) σ = .ok (.int l.length) σ := by
  show (match seqAt σ n with | some l => Res.ok (PV.int l.length) σ | Option.none => .stuck) = _
  rw [h]
theorem subV_list {k : Int} (h : seqAt σ n = some l) : subV (.obj n) (.int k) σ = getL l k σ := by
  show onSome .stuck (seqAt σ n) (fun l => getL l k σ) = _
  rw [h]; rfl
theorem subV_dict (h : dictAt σ n = some es) (hk : getKey x es = some v) : subV (.obj n) (.str x) σ = .ok v σ := by
  show onSome .stuck (dictAt σ n) (fun l => onSome .stuck (getKey x l) fun v => Res.ok v σ) = _
  rw [h]
  show onSome .stuck (getKey x es) (fun v => Res.ok v σ) = _
  rw [hk]; rfl
theorem eqV_str (a b : String) (σ : Hp) : eqV (.str a) (.str b) σ = some (a == b) := rfl
theorem cmp_eq {a b : PV} {r : Bool} (h : eqV a b σ = some r) : cmpV .eq a b σ = .ok (.bool r) σ := by
  show onSome .stuck (eqV a b σ) (fun r => Res.ok (PV.bool r) σ) = _
  rw [h]; rfl
theorem cmp_ne {a b : PV} {r : Bool} (h : eqV a b σ = some r) : cmpV .ne a b σ = .ok (.bool (!r)) σ := by
  show onSome .stuck (eqV a b σ) (fun r => Res.ok (PV.bool (!r)) σ) = _
  rw [h]; rfl
theorem cmp_gt (a b : Int) : cmpV .gt (.int a) (.int b) σ = .ok (.bool (decide (b < a))) σ := rfl
theorem cmp_lt (a b : Int) : cmpV .lt (.int a) (.int b) σ = .ok (.bool (decide (a < b))) σ := rfl
theorem add_str {a b : String} (h : (a ++ b).length ≤ 100000) : binV .add (.str a) (.str b) σ = .ok (.str (a ++ b)) σ := if_pos h
theorem add_int {a b : Int} (h : (a + b).natAbs ≤ 1000000000000) : binV .add (.int a) (.int b) σ = .ok (.int (a + b)) σ := okInt_ok h
theorem sub_int {a b : Int} (h : (a - b).natAbs ≤ 1000000000000) : binV .sub (.int a) (.int b) σ = .ok (.int (a - b)) σ := okInt_ok h
theorem mul_int {a b : Int} (h1 : a.natAbs ≤ 1000000000000 ∧ b.natAbs ≤ 1000000000000) (h : (a * b).natAbs ≤ 1000000000000) : binV .mul (.int a) (.int b) σ = .ok (.int (a * b)) σ := (if_pos h1).trans (okInt_ok h)
theorem fdiv_int {a b : Int} (h1 : 0 < b ∧ b.natAbs ≤ 1000000) (h : (Int.fdiv a b).natAbs ≤ 1000000000000) : binV .fdiv (.int a) (.int b) σ = .ok (.int (Int.fdiv a b)) σ := (if_pos h1).trans (okInt_ok h)
theorem mod_int {a b : Int} (h1 : 0 < b) (h : (Int.fmod a b).natAbs ≤ 1000000000000) : binV .mod (.int a) (.int b) σ = .ok (.int (Int.fmod a b)) σ := (if_pos h1).trans (okInt_ok h)
end

/-! statements -/
section
variable {cf : CF} {sc : Option (List Int)} {w : Nat} {ρ ρ' : Loc} {σ σ₁ σ₂ σ₃ : Hp} {k b b' : PB} {e e1 e2 c o : PE} {v v1 v2 ov : PV} {x m : String} {i : Int} {r : Res (Fl × Loc)}
theorem ex_expr (h : ev cf sc e ρ σ = .ok v σ₁) : ex cf sc w (.expr e k) ρ σ = ex cf sc w k ρ σ₁ := bindE h
theorem ex_expr_err (h : ev cf sc e ρ σ = .err m i σ₁) : ex cf sc w (.expr e k) ρ σ = .err m i σ₁ := bindX h
theorem ex_asg (h : ev cf sc e ρ σ = .ok v σ₁) : ex cf sc w (.asg x e k) ρ σ = ex cf sc w k (ρ.set x v) σ₁ := bindE h
theorem ex_asg_err (h : ev cf sc e ρ σ = .err m i σ₁) : ex cf sc w (.asg x e k) ρ σ = .err m i σ₁ := bindX h
theorem ex_asgT {xs : List String} {l : List PV} (h : ev cf sc e ρ σ = .ok (.tup l) σ₁) (hl : l.length = xs.length) : ex cf sc w (.asgT xs e k) ρ σ = ex cf sc w k (ρ.setAll xs l) σ₁ := (bindE h).trans (if_pos hl)
theorem ex_asgT_err {xs : List String} (h : ev cf sc e ρ σ = .err m i σ₁) : ex cf sc w (.asgT xs e k) ρ σ = .err m i σ₁ := bindX h
theorem ex_asgItem (h : ev cf sc e ρ σ = .ok v σ₁) (ho : ev cf sc o ρ σ₁ = .ok ov σ₂) (hs : setItemV ov x v σ₂ = .ok () σ₃) : ex cf sc w (.asgItem o x e k) ρ σ = ex cf sc w k ρ σ₃ := (bindE h).trans ((bindE ho).trans (bindE hs))
theorem ex_asgAttr (h : ev cf sc e ρ σ = .ok v σ₁) (ho : ev cf sc o ρ σ₁ = .ok ov σ₂) (hs : setAttrV ov x v σ₂ = .ok () σ₃) : ex cf sc w (.asgAttr o x e k) ρ σ = ex cf sc w k ρ σ₃ := (bindE h).trans ((bindE ho).trans (bindE hs))
theorem ex_augAttr {op : AOp} (ho : ev cf sc o ρ σ = .ok ov σ) (ha : attrV ov x σ = .ok v1 σ) (h : ev cf sc e ρ σ = .ok v2 σ) (hv : augV op v1 v2 σ = .ok v σ) (hs : setAttrV ov x v σ = .ok () σ₁) : ex cf sc w (.augAttr o x op e k) ρ σ = ex cf sc w k ρ σ₁ :=
  (bindE ho).trans ((bindE ha).trans ((bindE h).trans ((bindE hv).trans (bindE hs))))
theorem ex_ret (h : ev cf sc e ρ σ = .ok v σ₁) : ex cf sc w (.ret e k) ρ σ = .ok (.ret v, ρ) σ₁ := bindE h
theorem ex_raise (h : ev cf sc e1 ρ σ = .ok (.str m) σ₁) (h2 : ev cf sc e2 ρ σ₁ = .ok (.int i) σ₂) : ex cf sc w (.raise e1 e2 k) ρ σ = .err m i σ₂ := (bindE h).trans (bindE h2)
theorem thenK_next {r : Res (Fl × Loc)} {g : SR} (h : r = .ok (.next, ρ) σ) : thenK r g = g ρ σ := by rw [h]; rfl
theorem thenK_ret {r : Res (Fl × Loc)} {g : SR} (h : r = .ok (.ret v, ρ) σ) : thenK r g = .ok (.ret v, ρ) σ := by rw [h]; rfl
theorem thenK_err {r : Res (Fl × Loc)} {g : SR} (h : r = .err m i σ) : thenK r g = .err m i σ := by rw [h]; rfl
theorem ex_if_true (h : testR (ev cf sc c ρ σ) = .ok true σ₁) : ex cf sc w (.ifS c b b' k) ρ σ = thenK (ex cf sc w b ρ σ₁) (ex cf sc w k) := bindE h
theorem ex_if_else (h : testR (ev cf sc c ρ σ) = .ok false σ₁) : ex cf sc w (.ifS c b b' k) ρ σ = thenK (ex cf sc w b' ρ σ₁) (ex cf sc w k) := bindE h
theorem ex_if_false (h : testR (ev cf sc c ρ σ) = .ok false σ₁) : ex cf sc w (.ifS c b .nil k) ρ σ = ex cf sc w k ρ σ₁ := bindE h
/-- a branch that hands back -/
theorem ex_if_ret (h : ev cf sc c ρ σ = .ok (.bool true) σ₁) (hb : ex cf sc w b ρ σ₁ = .ok (.ret v, ρ') σ₂) : ex cf sc w (.ifS c b b' k) ρ σ = .ok (.ret v, ρ') σ₂ := (ex_if_true (testR_eq h)).trans (thenK_ret hb)
theorem ex_if_bad (h : ev cf sc c ρ σ = .ok (.bool true) σ₁) (hb : ex cf sc w b ρ σ₁ = .err m i σ₂) : ex cf sc w (.ifS c b b' k) ρ σ = .err m i σ₂ := (ex_if_true (testR_eq h)).trans (thenK_err hb)
theorem ex_skip (h : ev cf sc c ρ σ = .ok (.bool false) σ₁) : ex cf sc w (.ifS c b .nil k) ρ σ = ex cf sc w k ρ σ₁ := ex_if_false (testR_eq h)
theorem ex_try_ok (h : ev cf sc e ρ σ = .ok v σ₁) : ex cf sc w (.tryRet e k) ρ σ = .ok (.ret v, ρ) σ₁ := by
  show tryR (ev cf sc e ρ σ) ρ = _
  rw [h]; rfl
theorem ex_try_err (h : ev cf sc e ρ σ = .err m i σ₁) : ex cf sc w (.tryRet e k) ρ σ = .ok (.ret (.tup [.str m, .int i]), Loc.empty) σ₁ := by
  show tryR (ev cf sc e ρ σ) ρ = _
  rw [h]; rfl
theorem ex_forL {o : Nat} (h : ev cf sc e ρ σ = .ok (.obj o) σ₁) (hb : loopI x o (ex cf sc w b) w 0 ρ σ₁ = .ok (.next, ρ') σ₂) : ex cf sc w (.forL x e b k) ρ σ = ex cf sc w k ρ' σ₂ := (bindE h).trans (thenK_next hb)
theorem ex_while (h : loopW (fun ρ σ => testR (ev cf sc c ρ σ)) (ex cf sc w b) w ρ σ = .ok (.next, ρ') σ₁) : ex cf sc w (.whileS c b k) ρ σ = ex cf sc w k ρ' σ₁ := thenK_next h
theorem loopL_next {body : SR} {u : PV} {l : List PV} (h : body (ρ.set x u) σ = .ok (.next, ρ') σ₁) : loopL x body (u :: l) ρ σ = loopL x body l ρ' σ₁ := bindE h
theorem ex_forR {as : PE} {vs : List PV} {l : List Int} (h : ev cf sc as ρ σ = .ok (.tup vs) σ₁) (hl : rangeOf vs = some l) (hb : loopL x (ex cf sc w b) (l.map .int) ρ σ₁ = .ok (.next, ρ') σ₂) :
    ex cf sc w (.forR x as b k) ρ σ = ex cf sc w k ρ' σ₂ := by
  refine (bindE h).trans ?_
  show (match rangeOf vs with | some l => thenK (loopL x (ex cf sc w b) (l.map .int) ρ σ₁) (ex cf sc w k) | Option.none => .stuck) = _
  rw [hl]
  exact thenK_next hb
variable {test : Loc → Hp → Res Bool} {body : SR} {n : Nat}
theorem loopW_exit (h : test ρ σ = .ok false σ₁) : loopW test body (n + 1) ρ σ = .ok (.next, ρ) σ₁ := bindE h
theorem loopW_next (h : test ρ σ = .ok true σ₁) (hb : body ρ σ₁ = .ok (.next, ρ') σ₂) : loopW test body (n + 1) ρ σ = loopW test body n ρ' σ₂ := (bindE h).trans (bindE hb)
theorem loopW_brk (h : test ρ σ = .ok true σ₁) (hb : body ρ σ₁ = .ok (.brk, ρ') σ₂) : loopW test body (n + 1) ρ σ = .ok (.next, ρ') σ₂ := (bindE h).trans (bindE hb)
theorem loopW_errB (h : test ρ σ = .ok true σ₁) (hb : body ρ σ₁ = .err m i σ₂) : loopW test body (n + 1) ρ σ = .err m i σ₂ := (bindE h).trans (bindX hb)
end

/-- a call: its def, its words, what its block does -/
theorem call_eq {tbl : String → Option FnDef} {w n : Nat} {x : String} {d : FnDef} {vs : List PV} {σ : Hp} {ρ : Loc} (h : tbl x = some d) (hb : bindL d.params vs = some ρ) : callN tbl w (n + 1) x vs σ = (ex (callN tbl w n) Option.none w d.body ρ σ).bind fun p σ => .ok (retOf p.1) σ := by
  show (match tbl x with | Option.none => Res.stuck | some d => match bindL d.params vs with | Option.none => Res.stuck | some ρ => (ex (callN tbl w n) Option.none w d.body ρ σ).bind fun p σ => .ok (retOf p.1) σ) = _
  rw [h]
  show (match bindL d.params vs with | Option.none => Res.stuck | some ρ => (ex (callN tbl w n) Option.none w d.body ρ σ).bind fun p σ => .ok (retOf p.1) σ) = _
  rw [hb]
theorem call_ok {tbl : String → Option FnDef} {w n : Nat} {x : String} {d : FnDef} {vs : List PV} {σ σ' : Hp} {ρ ρ' : Loc} {v : PV} (h : tbl x = some d) (hb : bindL d.params vs = some ρ) (hx : ex (callN tbl w n) Option.none w d.body ρ σ = .ok (.ret v, ρ') σ') : callN tbl w (n + 1) x vs σ = .ok v σ' := (call_eq h hb).trans (bindE hx)
theorem call_none {tbl : String → Option FnDef} {w n : Nat} {x : String} {d : FnDef} {vs : List PV} {σ σ' : Hp} {ρ ρ' : Loc} (h : tbl x = some d) (hb : bindL d.params vs = some ρ) (hx : ex (callN tbl w n) Option.none w d.body ρ σ = .ok (.next, ρ') σ') : callN tbl w (n + 1) x vs σ = .ok .none σ' := (call_eq h hb).trans (bindE hx)
theorem call_err {tbl : String → Option FnDef} {w n : Nat} {x : String} {d : FnDef} {vs : List PV} {σ σ' : Hp} {ρ : Loc} {m : String} {i : Int} (h : tbl x = some d) (hb : bindL d.params vs = some ρ) (hx : ex (callN tbl w n) Option.none w d.body ρ σ = .err m i σ') : callN tbl w (n + 1) x vs σ = .err m i σ' := (call_eq h hb).trans (bindX hx)
end Mine
end
section
/-! The parser's methods (printed by gen.py). -/
namespace Mine
noncomputable def m_init : FnDef := ⟨["self", "tokens"],
  (.asgAttr (.loc "self") "tokens" (.loc "tokens")
    (.asgAttr (.loc "self") "place" (.int 0)
    (.asgAttr (.loc "self") "depth" (.int 0)
    .nil)))⟩
noncomputable def m_kind : FnDef := ⟨["self"],
  (.ret (.sub (.sub (.attr (.loc "self") "tokens") (.attr (.loc "self") "place")) (.int 0))
    .nil)⟩
noncomputable def m_spot : FnDef := ⟨["self"],
  (.ret (.sub (.sub (.attr (.loc "self") "tokens") (.attr (.loc "self") "place")) (.int 2))
    .nil)⟩
noncomputable def m_take : FnDef := ⟨["self"],
  (.augAttr (.loc "self") "place" .add (.int 1)
    (.ret (.sub (.sub (.attr (.loc "self") "tokens") (.bin .sub (.attr (.loc "self") "place") (.int 1))) (.int 1))
    .nil))⟩
noncomputable def m_is_next : FnDef := ⟨["self", "value"],
  (.ret (.and (.isin false (.sub (.sub (.attr (.loc "self") "tokens") (.attr (.loc "self") "place")) (.int 0)) (.tup (.acons (.str "word") (.acons (.str "sign") .anil)))) (.cmp .eq (.sub (.sub (.attr (.loc "self") "tokens") (.attr (.loc "self") "place")) (.int 1)) (.loc "value")))
    .nil)⟩
noncomputable def m_took : FnDef := ⟨["self", "value"],
  (.ifS (.meth (.loc "self") "is_next" (.acons (.loc "value") .anil))
      (.augAttr (.loc "self") "place" .add (.int 1)
      (.ret (.bool true)
      .nil))
      .nil
    (.ret (.bool false)
    .nil))⟩
noncomputable def m_want : FnDef := ⟨["self", "value"],
  (.ifS (.not (.meth (.loc "self") "took" (.acons (.loc "value") .anil)))
      (.raise (.bin .add (.loc "value") (.str " is wanted")) (.meth (.loc "self") "spot" .anil)
      .nil)
      .nil
    .nil)⟩
noncomputable def m_want_name : FnDef := ⟨["self"],
  (.ifS (.cmp .ne (.meth (.loc "self") "kind" .anil) (.str "name"))
      (.raise (.str "a name is wanted") (.meth (.loc "self") "spot" .anil)
      .nil)
      .nil
    (.ret (.meth (.loc "self") "take" .anil)
    .nil))⟩
noncomputable def m_level : FnDef := ⟨["self"],
  (.ifS (.isin true (.meth (.loc "self") "kind" .anil) (.tup (.acons (.str "word") (.acons (.str "sign") .anil))))
      (.ret (.int 0)
      .nil)
      .nil
    (.ret (.gget "LEVELS" (.sub (.sub (.attr (.loc "self") "tokens") (.attr (.loc "self") "place")) (.int 1)) (.int 0))
    .nil))⟩
noncomputable def m_expr : FnDef := ⟨["self"],
  (.augAttr (.loc "self") "depth" .add (.int 1)
    (.ifS (.cmp .gt (.attr (.loc "self") "depth") (.gint "MOST_DEPTH"))
      (.raise (.str "expressions are nested too deeply") (.meth (.loc "self") "spot" .anil)
      .nil)
      .nil
    (.asgT ["parts", "waiting"] (.tup (.acons (.list (.acons (.meth (.loc "self") "operand" .anil) .anil)) (.acons (.list .anil) .anil)))
    (.whileS (.cmp .gt (.meth (.loc "self") "level" .anil) (.int 0))
      (.asgT ["level", "spot"] (.tup (.acons (.meth (.loc "self") "level" .anil) (.acons (.meth (.loc "self") "spot" .anil) .anil)))
      (.whileS (.and (.cmp .gt (.len (.loc "waiting")) (.int 0)) (.cmp .ge (.sub (.sub (.loc "waiting") (.int (-1))) (.int 0)) (.bin .add (.loc "level") (.ite (.cmp .eq (.loc "level") (.gint "RIGHT_LEVEL")) (.int 1) (.int 0)))))
        (.ifS (.and (.cmp .eq (.sub (.sub (.loc "waiting") (.int (-1))) (.int 0)) (.loc "level")) (.inG "SINGLE_LEVELS" (.loc "level")))
          (.raise (.str "two such operations want brackets") (.loc "spot")
          .nil)
          .nil
        (.expr (.meth (.loc "self") "put_together" (.acons (.loc "parts") (.acons (.pop (.loc "waiting")) .anil)))
        .nil))
      (.expr (.append (.loc "waiting") (.tup (.acons (.loc "level") (.acons (.loc "spot") (.acons (.meth (.loc "self") "take" .anil) .anil)))))
      (.expr (.append (.loc "parts") (.meth (.loc "self") "operand" .anil))
      .nil))))
    (.whileS (.cmp .gt (.len (.loc "waiting")) (.int 0))
      (.expr (.meth (.loc "self") "put_together" (.acons (.loc "parts") (.acons (.pop (.loc "waiting")) .anil)))
      .nil)
    (.augAttr (.loc "self") "depth" .sub (.int 1)
    (.ret (.sub (.loc "parts") (.int 0))
    .nil)))))))⟩
noncomputable def m_put_together : FnDef := ⟨["self", "parts", "one"],
  (.asgT ["right", "left"] (.tup (.acons (.pop (.loc "parts")) (.acons (.pop (.loc "parts")) .anil)))
    (.ifS (.cmp .eq (.sub (.loc "one") (.int 2)) (.str ".."))
      (.expr (.append (.loc "parts") (.tup (.acons (.str "range") (.acons (.sub (.loc "one") (.int 1)) (.acons (.loc "left") (.acons (.loc "right") .anil))))))
      .nil)
      (.expr (.append (.loc "parts") (.tup (.acons (.str "bin") (.acons (.sub (.loc "one") (.int 1)) (.acons (.sub (.loc "one") (.int 2)) (.acons (.loc "left") (.acons (.loc "right") .anil)))))))
      .nil)
    .nil))⟩
noncomputable def m_operand : FnDef := ⟨["self"],
  (.asg "ahead" (.list .anil)
    (.whileS (.or (.meth (.loc "self") "is_next" (.acons (.str "-") .anil)) (.or (.meth (.loc "self") "is_next" (.acons (.str "+") .anil)) (.meth (.loc "self") "is_next" (.acons (.str "not") .anil))))
      (.expr (.append (.loc "ahead") (.tup (.acons (.meth (.loc "self") "spot" .anil) (.acons (.meth (.loc "self") "take" .anil) .anil))))
      .nil)
    (.asg "node" (.meth (.loc "self") "atom" .anil)
    (.whileS (.meth (.loc "self") "is_next" (.acons (.str "[") .anil))
      (.asg "spot" (.meth (.loc "self") "spot" .anil)
      (.expr (.meth (.loc "self") "take" .anil)
      (.asg "node" (.tup (.acons (.str "index") (.acons (.loc "spot") (.acons (.loc "node") (.acons (.meth (.loc "self") "exprs" (.acons (.str "]") .anil)) .anil)))))
      .nil)))
    (.whileS (.cmp .gt (.len (.loc "ahead")) (.int 0))
      (.asgT ["spot", "op"] (.pop (.loc "ahead"))
      (.asg "node" (.tup (.acons (.str "un") (.acons (.loc "spot") (.acons (.loc "op") (.acons (.loc "node") .anil)))))
      .nil))
    (.ret (.loc "node")
    .nil))))))⟩
noncomputable def m_exprs : FnDef := ⟨["self", "close"],
  (.asg "found" (.list .anil)
    (.whileS (.not (.meth (.loc "self") "took" (.acons (.loc "close") .anil)))
      (.expr (.append (.loc "found") (.meth (.loc "self") "expr" .anil))
      (.ifS (.not (.meth (.loc "self") "is_next" (.acons (.loc "close") .anil)))
        (.expr (.meth (.loc "self") "want" (.acons (.str ",") .anil))
        .nil)
        .nil
      .nil))
    (.ret (.tupleOf (.loc "found"))
    .nil)))⟩
noncomputable def m_atom : FnDef := ⟨["self"],
  (.asgT ["kind", "value", "spot"] (.sub (.attr (.loc "self") "tokens") (.attr (.loc "self") "place"))
    (.ifS (.cmp .eq (.loc "kind") (.str "int"))
      (.ret (.tup (.acons (.str "int") (.acons (.loc "spot") (.acons (.meth (.loc "self") "take" .anil) .anil))))
      .nil)
      .nil
    (.ifS (.cmp .eq (.loc "kind") (.str "str"))
      (.ret (.meth (.loc "self") "string_node" (.acons (.loc "spot") (.acons (.meth (.loc "self") "take" .anil) .anil)))
      .nil)
      .nil
    (.ifS (.cmp .eq (.loc "kind") (.str "name"))
      (.ret (.meth (.loc "self") "named" (.acons (.loc "spot") (.acons (.meth (.loc "self") "take" .anil) .anil)))
      .nil)
      .nil
    (.ifS (.or (.cmp .eq (.loc "value") (.str "true")) (.cmp .eq (.loc "value") (.str "false")))
      (.ret (.tup (.acons (.str "bool") (.acons (.loc "spot") (.acons (.cmp .eq (.meth (.loc "self") "take" .anil) (.str "true")) .anil))))
      .nil)
      .nil
    (.ifS (.meth (.loc "self") "took" (.acons (.str "(") .anil))
      (.asg "node" (.meth (.loc "self") "expr" .anil)
      (.expr (.meth (.loc "self") "want" (.acons (.str ")") .anil))
      (.ret (.loc "node")
      .nil)))
      .nil
    (.ifS (.meth (.loc "self") "took" (.acons (.str "[") .anil))
      (.ret (.meth (.loc "self") "listed" (.acons (.loc "spot") (.acons (.str "array") (.acons (.str "]") .anil))))
      .nil)
      .nil
    (.ifS (.meth (.loc "self") "took" (.acons (.str "{") .anil))
      (.ret (.meth (.loc "self") "listed" (.acons (.loc "spot") (.acons (.str "set") (.acons (.str "}") .anil))))
      .nil)
      .nil
    (.ifS (.meth (.loc "self") "took" (.acons (.str "[|") .anil))
      (.ret (.meth (.loc "self") "rows" (.acons (.loc "spot") .anil))
      .nil)
      .nil
    (.ifS (.meth (.loc "self") "took" (.acons (.str "if") .anil))
      (.ret (.meth (.loc "self") "choice" (.acons (.loc "spot") .anil))
      .nil)
      .nil
    (.ifS (.meth (.loc "self") "took" (.acons (.str "let") .anil))
      (.ret (.meth (.loc "self") "let" (.acons (.loc "spot") .anil))
      .nil)
      .nil
    (.raise (.str "an expression is wanted") (.loc "spot")
    .nil))))))))))))⟩
noncomputable def m_named : FnDef := ⟨["self", "spot", "name"],
  (.ifS (.not (.meth (.loc "self") "took" (.acons (.str "(") .anil)))
      (.ret (.tup (.acons (.str "name") (.acons (.loc "spot") (.acons (.loc "name") .anil))))
      .nil)
      .nil
    (.ifS (.or (.not (.meth (.loc "self") "begins_generator" .anil)) (.cmp .ne (.meth (.loc "self") "behind_bracket" .anil) (.tup (.acons (.str "sign") (.acons (.str "(") .anil)))))
      (.ret (.tup (.acons (.str "call") (.acons (.loc "spot") (.acons (.loc "name") (.acons (.meth (.loc "self") "exprs" (.acons (.str ")") .anil)) .anil)))))
      .nil)
      .nil
    (.asgT ["generators", "where"] (.meth (.loc "self") "generators" (.acons (.str ")") .anil))
    (.expr (.meth (.loc "self") "want" (.acons (.str "(") .anil))
    (.asg "body" (.meth (.loc "self") "expr" .anil)
    (.expr (.meth (.loc "self") "want" (.acons (.str ")") .anil))
    (.ret (.tup (.acons (.str "gen") (.acons (.loc "spot") (.acons (.loc "name") (.acons (.loc "generators") (.acons (.loc "where") (.acons (.loc "body") .anil)))))))
    .nil)))))))⟩
noncomputable def m_begins_generator : FnDef := ⟨["self"],
  (.asg "place" (.attr (.loc "self") "place")
    (.whileS (.and (.cmp .eq (.sub (.sub (.attr (.loc "self") "tokens") (.loc "place")) (.int 0)) (.str "name")) (.cmp .eq (.slice2 (.sub (.attr (.loc "self") "tokens") (.bin .add (.loc "place") (.int 1))) (.int 1) (.int 2)) (.tup (.acons (.str ",") .anil))))
      (.augLoc "place" .add (.int 2)
      .nil)
    (.ret (.and (.cmp .eq (.sub (.sub (.attr (.loc "self") "tokens") (.loc "place")) (.int 0)) (.str "name")) (.cmp .eq (.sliceTo (.sub (.attr (.loc "self") "tokens") (.bin .add (.loc "place") (.int 1))) (.int 2)) (.tup (.acons (.str "word") (.acons (.str "in") .anil)))))
    .nil)))⟩
noncomputable def m_generators : FnDef := ⟨["self", "close"],
  (.asgT ["found", "where"] (.tup (.acons (.list .anil) (.acons .none .anil)))
    (.whileS (.bool true)
      (.asg "names" (.list (.acons (.meth (.loc "self") "want_name" .anil) .anil))
      (.whileS (.meth (.loc "self") "took" (.acons (.str ",") .anil))
        (.expr (.append (.loc "names") (.meth (.loc "self") "want_name" .anil))
        .nil)
      (.expr (.meth (.loc "self") "want" (.acons (.str "in") .anil))
      (.expr (.append (.loc "found") (.tup (.acons (.tupleOf (.loc "names")) (.acons (.meth (.loc "self") "expr" .anil) .anil))))
      (.ifS (.not (.meth (.loc "self") "took" (.acons (.str ",") .anil)))
        (.brk
        .nil)
        .nil
      .nil)))))
    (.ifS (.meth (.loc "self") "took" (.acons (.str "where") .anil))
      (.asg "where" (.meth (.loc "self") "expr" .anil)
      .nil)
      .nil
    (.ifS (.meth (.loc "self") "is_next" (.acons (.loc "close") .anil))
      (.expr (.meth (.loc "self") "take" .anil)
      (.ret (.tup (.acons (.tupleOf (.loc "found")) (.acons (.loc "where") .anil)))
      .nil))
      .nil
    (.raise (.bin .add (.loc "close") (.str " is wanted")) (.meth (.loc "self") "spot" .anil)
    .nil)))))⟩
noncomputable def m_listed : FnDef := ⟨["self", "spot", "kind", "close"],
  (.ifS (.meth (.loc "self") "took" (.acons (.loc "close") .anil))
      (.ret (.tup (.acons (.loc "kind") (.acons (.loc "spot") (.acons (.tup .anil) .anil))))
      .nil)
      .nil
    (.asg "first" (.meth (.loc "self") "expr" .anil)
    (.ifS (.meth (.loc "self") "took" (.acons (.str "|") .anil))
      (.asgT ["generators", "where"] (.meth (.loc "self") "generators" (.acons (.loc "close") .anil))
      (.ret (.tup (.acons (.str "comp") (.acons (.loc "spot") (.acons (.loc "kind") (.acons (.loc "generators") (.acons (.loc "where") (.acons (.loc "first") .anil)))))))
      .nil))
      .nil
    (.ifS (.meth (.loc "self") "took" (.acons (.loc "close") .anil))
      (.ret (.tup (.acons (.loc "kind") (.acons (.loc "spot") (.acons (.tup (.acons (.loc "first") .anil)) .anil))))
      .nil)
      .nil
    (.expr (.meth (.loc "self") "want" (.acons (.str ",") .anil))
    (.ret (.tup (.acons (.loc "kind") (.acons (.loc "spot") (.acons (.bin .add (.tup (.acons (.loc "first") .anil)) (.meth (.loc "self") "exprs" (.acons (.loc "close") .anil))) .anil))))
    .nil))))))⟩
noncomputable def m_choice : FnDef := ⟨["self", "spot"],
  (.asg "ways" (.list .anil)
    (.whileS (.bool true)
      (.asg "condition" (.meth (.loc "self") "expr" .anil)
      (.expr (.meth (.loc "self") "want" (.acons (.str "then") .anil))
      (.expr (.append (.loc "ways") (.tup (.acons (.loc "condition") (.acons (.meth (.loc "self") "expr" .anil) .anil))))
      (.ifS (.not (.meth (.loc "self") "took" (.acons (.str "elseif") .anil)))
        (.brk
        .nil)
        .nil
      .nil))))
    (.asg "other" (.ite (.meth (.loc "self") "took" (.acons (.str "else") .anil)) (.meth (.loc "self") "expr" .anil) (.tup (.acons (.str "bool") (.acons (.loc "spot") (.acons (.bool true) .anil)))))
    (.expr (.meth (.loc "self") "want" (.acons (.str "endif") .anil))
    (.ret (.tup (.acons (.str "if") (.acons (.loc "spot") (.acons (.tupleOf (.loc "ways")) (.acons (.loc "other") .anil)))))
    .nil)))))⟩
noncomputable def m_let : FnDef := ⟨["self", "spot"],
  (.expr (.meth (.loc "self") "want" (.acons (.str "{") .anil))
    (.asg "found" (.list .anil)
    (.whileS (.not (.meth (.loc "self") "took" (.acons (.str "}") .anil)))
      (.expr (.append (.loc "found") (.meth (.loc "self") "inner_item" .anil))
      (.ifS (.and (.not (.meth (.loc "self") "is_next" (.acons (.str "}") .anil))) (.not (.meth (.loc "self") "took" (.acons (.str ",") .anil))))
        (.expr (.meth (.loc "self") "want" (.acons (.str ";") .anil))
        .nil)
        .nil
      .nil))
    (.expr (.meth (.loc "self") "want" (.acons (.str "in") .anil))
    (.ret (.tup (.acons (.str "let") (.acons (.loc "spot") (.acons (.tupleOf (.loc "found")) (.acons (.meth (.loc "self") "expr" .anil) .anil)))))
    .nil)))))⟩
noncomputable def m_inner_item : FnDef := ⟨["self"],
  (.asg "spot" (.meth (.loc "self") "spot" .anil)
    (.ifS (.meth (.loc "self") "took" (.acons (.str "constraint") .anil))
      (.asg "node" (.meth (.loc "self") "expr" .anil)
      (.expr (.meth (.loc "self") "pass_notes" .anil)
      (.ret (.tup (.acons (.str "constraint") (.acons (.loc "spot") (.acons (.loc "node") .anil))))
      .nil)))
      .nil
    (.ret (.meth (.loc "self") "declaration" (.acons (.loc "spot") .anil))
    .nil)))⟩
noncomputable def m_declaration : FnDef := ⟨["self", "spot"],
  (.asg "what" (.meth (.loc "self") "type_node" .anil)
    (.expr (.meth (.loc "self") "want" (.acons (.str ":") .anil))
    (.asg "name" (.meth (.loc "self") "want_name" .anil)
    (.expr (.meth (.loc "self") "pass_notes" .anil)
    (.asg "value" (.ite (.meth (.loc "self") "took" (.acons (.str "=") .anil)) (.meth (.loc "self") "expr" .anil) .none)
    (.ret (.tup (.acons (.str "decl") (.acons (.loc "spot") (.acons (.loc "what") (.acons (.loc "name") (.acons (.loc "value") .anil))))))
    .nil))))))⟩
noncomputable def m_pass_notes : FnDef := ⟨["self"],
  (.whileS (.meth (.loc "self") "took" (.acons (.str "::") .anil))
      (.expr (.meth (.loc "self") "atom" .anil)
      .nil)
    .nil)⟩
noncomputable def m_type_node : FnDef := ⟨["self"],
  (.asg "dims" (.list .anil)
    (.ifS (.meth (.loc "self") "took" (.acons (.str "array") .anil))
      (.expr (.meth (.loc "self") "want" (.acons (.str "[") .anil))
      (.whileS (.bool true)
        (.expr (.append (.loc "dims") (.ite (.meth (.loc "self") "took" (.acons (.str "int") .anil)) (.tup (.acons (.str "int_any") .anil)) (.meth (.loc "self") "expr" .anil)))
        (.ifS (.not (.meth (.loc "self") "took" (.acons (.str ",") .anil)))
          (.brk
          .nil)
          .nil
        .nil))
      (.expr (.meth (.loc "self") "want" (.acons (.str "]") .anil))
      (.expr (.meth (.loc "self") "want" (.acons (.str "of") .anil))
      .nil))))
      .nil
    (.asg "is_var" (.meth (.loc "self") "took" (.acons (.str "var") .anil))
    (.ifS (.not (.loc "is_var"))
      (.expr (.meth (.loc "self") "took" (.acons (.str "par") .anil))
      .nil)
      .nil
    (.ifS (.meth (.loc "self") "took" (.acons (.str "set") .anil))
      (.expr (.meth (.loc "self") "want" (.acons (.str "of") .anil))
      (.ret (.tup (.acons (.str "set") (.acons (.loc "is_var") (.acons (.tupleOf (.loc "dims")) (.acons (.ite (.meth (.loc "self") "took" (.acons (.str "int") .anil)) .none (.meth (.loc "self") "expr" .anil)) .anil)))))
      .nil))
      .nil
    (.ifS (.and (.cmp .eq (.meth (.loc "self") "kind" .anil) (.str "word")) (.inG "BASES" (.sub (.sub (.attr (.loc "self") "tokens") (.attr (.loc "self") "place")) (.int 1))))
      (.ret (.tup (.acons (.gitem "BASES" (.meth (.loc "self") "take" .anil)) (.acons (.loc "is_var") (.acons (.tupleOf (.loc "dims")) (.acons .none .anil)))))
      .nil)
      .nil
    (.ret (.tup (.acons (.str "int") (.acons (.loc "is_var") (.acons (.tupleOf (.loc "dims")) (.acons (.meth (.loc "self") "expr" .anil) .anil)))))
    .nil)))))))⟩
noncomputable def methL : List (String × FnDef) := [(".__init__", m_init), (".kind", m_kind), (".spot", m_spot), (".take", m_take), (".is_next", m_is_next), (".took", m_took), (".want", m_want), (".want_name", m_want_name), (".level", m_level), (".expr", m_expr), (".put_together", m_put_together), (".operand", m_operand), (".exprs", m_exprs), (".atom", m_atom), (".named", m_named), (".begins_generator", m_begins_generator), (".generators", m_generators), (".listed", m_listed), (".choice", m_choice), (".let", m_let), (".inner_item", m_inner_item), (".declaration", m_declaration), (".pass_notes", m_pass_notes), (".type_node", m_type_node)]
noncomputable def methNames : List String := ["__init__", "kind", "spot", "take", "is_next", "took", "want", "want_name", "level", "expr", "put_together", "operand", "exprs", "atom", "named", "begins_generator", "generators", "listed", "choice", "let", "inner_item", "declaration", "pass_notes", "type_node", "string_node", "rows", "behind_bracket"]
end Mine
end
section
/-! The defs of law 1 (printed by gen.py). -/
namespace Mine.L1
noncomputable def f_law_roll : FnDef := ⟨["tray", "many"],
  (.asg "spot" (.sub (.loc "tray") (.str "roll"))
    (.asgItem (.loc "tray") "roll" (.bin .add (.loc "spot") (.int 1))
    (.ifS (.cmp .lt (.loc "spot") (.len (.sub (.loc "tray") (.str "cells"))))
      (.ret (.bin .mod (.sub (.sub (.loc "tray") (.str "cells")) (.loc "spot")) (.loc "many"))
      .nil)
      .nil
    (.ret (.bin .mod (.bin .add (.bin .add (.bin .mul (.int 4) (.loc "spot")) (.bin .fdiv (.loc "spot") (.int 3))) (.int 2)) (.loc "many"))
    .nil))))⟩
noncomputable def f_law_laid : FnDef := ⟨["rows", "kind", "worth"],
  (.asg "spot" (.bin .add (.bin .mul (.int 4) (.len (.loc "rows"))) (.int 9))
    (.expr (.append (.loc "rows") (.tup (.acons (.loc "kind") (.acons (.loc "worth") (.acons (.loc "spot") .anil)))))
    (.ret (.loc "spot")
    .nil)))⟩
noncomputable def f_law_part : FnDef := ⟨["tray", "rows", "deep"],
  (.asg "way" (.call "_law_roll" (.acons (.loc "tray") (.acons (.ite (.cmp .gt (.loc "deep") (.int 0)) (.int 5) (.int 4)) .anil)))
    (.ifS (.cmp .eq (.loc "way") (.int 0))
      (.asg "worth" (.call "_law_roll" (.acons (.loc "tray") (.acons (.int 7) .anil)))
      (.ret (.tup (.acons (.str "int") (.acons (.call "_law_laid" (.acons (.loc "rows") (.acons (.str "int") (.acons (.loc "worth") .anil)))) (.acons (.loc "worth") .anil))))
      .nil))
      .nil
    (.ifS (.cmp .eq (.loc "way") (.int 1))
      (.asg "name" (.sub (.str "xyz") (.call "_law_roll" (.acons (.loc "tray") (.acons (.int 3) .anil))))
      (.ret (.tup (.acons (.str "name") (.acons (.call "_law_laid" (.acons (.loc "rows") (.acons (.str "name") (.acons (.loc "name") .anil)))) (.acons (.loc "name") .anil))))
      .nil))
      .nil
    (.ifS (.cmp .eq (.loc "way") (.int 2))
      (.asg "word" (.sub (.tup (.acons (.str "false") (.acons (.str "true") .anil))) (.call "_law_roll" (.acons (.loc "tray") (.acons (.int 2) .anil))))
      (.ret (.tup (.acons (.str "bool") (.acons (.call "_law_laid" (.acons (.loc "rows") (.acons (.str "word") (.acons (.loc "word") .anil)))) (.acons (.cmp .eq (.loc "word") (.str "true")) .anil))))
      .nil))
      .nil
    (.ifS (.cmp .eq (.loc "way") (.int 3))
      (.asg "left" (.tup (.acons (.str "name") (.acons (.call "_law_laid" (.acons (.loc "rows") (.acons (.str "name") (.acons (.str "u") .anil)))) (.acons (.str "u") .anil))))
      (.asg "spot" (.call "_law_laid" (.acons (.loc "rows") (.acons (.str "sign") (.acons (.str "+") .anil))))
      (.ret (.tup (.acons (.str "bin") (.acons (.loc "spot") (.acons (.str "+") (.acons (.loc "left") (.acons (.tup (.acons (.str "int") (.acons (.call "_law_laid" (.acons (.loc "rows") (.acons (.str "int") (.acons (.int 1) .anil)))) (.acons (.int 1) .anil)))) .anil))))))
      .nil)))
      .nil
    (.asg "spot" (.call "_law_laid" (.acons (.loc "rows") (.acons (.str "word") (.acons (.str "if") .anil))))
    (.ret (.call "_law_chosen" (.acons (.loc "tray") (.acons (.loc "rows") (.acons (.loc "spot") (.acons (.bin .sub (.loc "deep") (.int 1)) (.acons (.list .anil) .anil))))))
    .nil)))))))⟩
noncomputable def f_law_chosen : FnDef := ⟨["tray", "rows", "spot", "deep", "needed"],
  (.asg "ways" (.list .anil)
    (.forR "lap" (.acons (.bin .add (.int 1) (.call "_law_roll" (.acons (.loc "tray") (.acons (.int 3) .anil)))) .anil)
      (.ifS (.cmp .gt (.loc "lap") (.int 0))
        (.expr (.call "_law_laid" (.acons (.loc "rows") (.acons (.str "word") (.acons (.str "elseif") .anil))))
        .nil)
        .nil
      (.asg "condition" (.call "_law_part" (.acons (.loc "tray") (.acons (.loc "rows") (.acons (.loc "deep") .anil))))
      (.expr (.append (.loc "needed") (.len (.loc "rows")))
      (.expr (.call "_law_laid" (.acons (.loc "rows") (.acons (.str "word") (.acons (.str "then") .anil))))
      (.expr (.append (.loc "ways") (.tup (.acons (.loc "condition") (.acons (.call "_law_part" (.acons (.loc "tray") (.acons (.loc "rows") (.acons (.loc "deep") .anil)))) .anil))))
      .nil)))))
    (.asg "other" (.tup (.acons (.str "bool") (.acons (.loc "spot") (.acons (.bool true) .anil))))
    (.ifS (.cmp .gt (.call "_law_roll" (.acons (.loc "tray") (.acons (.int 3) .anil))) (.int 0))
      (.expr (.call "_law_laid" (.acons (.loc "rows") (.acons (.str "word") (.acons (.str "else") .anil))))
      (.asg "other" (.call "_law_part" (.acons (.loc "tray") (.acons (.loc "rows") (.acons (.loc "deep") .anil))))
      .nil))
      .nil
    (.expr (.append (.loc "needed") (.len (.loc "rows")))
    (.expr (.call "_law_laid" (.acons (.loc "rows") (.acons (.str "word") (.acons (.str "endif") .anil))))
    (.ret (.tup (.acons (.str "if") (.acons (.loc "spot") (.acons (.tupleOf (.loc "ways")) (.acons (.loc "other") .anil)))))
    .nil)))))))⟩
noncomputable def f_law_heard : FnDef := ⟨["parser", "spot"],
  (.tryRet (.meth (.loc "parser") "choice" (.acons (.loc "spot") .anil))
    .nil)⟩
noncomputable def f_law_nested : FnDef := ⟨["many"],
  (.asgT ["rows", "spots"] (.tup (.acons (.list .anil) (.acons (.list (.acons (.int 1) .anil)) .anil)))
    (.forR "lap" (.acons (.loc "many") .anil)
      (.expr (.call "_law_laid" (.acons (.loc "rows") (.acons (.str "word") (.acons (.str "true") .anil))))
      (.expr (.call "_law_laid" (.acons (.loc "rows") (.acons (.str "word") (.acons (.str "then") .anil))))
      (.ifS (.cmp .lt (.loc "lap") (.bin .sub (.loc "many") (.int 1)))
        (.expr (.append (.loc "spots") (.call "_law_laid" (.acons (.loc "rows") (.acons (.str "word") (.acons (.str "if") .anil)))))
        .nil)
        .nil
      .nil)))
    (.asg "node" (.tup (.acons (.str "name") (.acons (.call "_law_laid" (.acons (.loc "rows") (.acons (.str "name") (.acons (.str "x") .anil)))) (.acons (.str "x") .anil))))
    (.forR "lap" (.acons (.loc "many") .anil)
      (.expr (.call "_law_laid" (.acons (.loc "rows") (.acons (.str "word") (.acons (.str "endif") .anil))))
      .nil)
    (.forR "lap" (.acons (.bin .sub (.loc "many") (.int 1)) (.acons (.int (-1)) (.acons (.int (-1)) .anil)))
      (.asg "node" (.tup (.acons (.str "if") (.acons (.sub (.loc "spots") (.loc "lap")) (.acons (.tup (.acons (.tup (.acons (.tup (.acons (.str "bool") (.acons (.sub (.sub (.loc "rows") (.bin .mul (.int 3) (.loc "lap"))) (.int 2)) (.acons (.bool true) .anil)))) (.acons (.loc "node") .anil))) .anil)) (.acons (.tup (.acons (.str "bool") (.acons (.sub (.loc "spots") (.loc "lap")) (.acons (.bool true) .anil)))) .anil)))))
      .nil)
    (.expr (.call "_law_laid" (.acons (.loc "rows") (.acons (.str "end") (.acons (.str "") .anil))))
    (.ret (.tup (.acons (.loc "rows") (.acons (.loc "node") .anil)))
    .nil)))))))⟩
noncomputable def f_law : FnDef := ⟨["script"],
  (.asgT ["tray", "rows", "needed"] (.tup (.acons (.dict ["cells", "roll"] (.acons (.cells 50 1000003) (.acons (.int 0) .anil))) (.acons (.list .anil) (.acons (.list .anil) .anil))))
    (.asg "due" (.call "_law_chosen" (.acons (.loc "tray") (.acons (.loc "rows") (.acons (.int 2) (.acons (.int 2) (.acons (.loc "needed") .anil))))))
    (.asg "behind_it" (.len (.loc "rows"))
    (.expr (.call "_law_laid" (.acons (.loc "rows") (.acons (.str "sign") (.acons (.str ";") .anil))))
    (.expr (.call "_law_laid" (.acons (.loc "rows") (.acons (.str "end") (.acons (.str "") .anil))))
    (.asg "parser" (.new (.listOf (.loc "rows")))
    (.ifS (.or (.cmp .ne (.call "_law_heard" (.acons (.loc "parser") (.acons (.int 2) .anil))) (.loc "due")) (.or (.cmp .ne (.attr (.loc "parser") "place") (.loc "behind_it")) (.cmp .ne (.attr (.loc "parser") "depth") (.int 0))))
      (.ret (.bool false)
      .nil)
      .nil
    (.forL "gone" (.loc "needed")
      (.asg "shorter" (.new (.bin .add (.sliceTo (.loc "rows") (.loc "gone")) (.sliceFrom (.loc "rows") (.bin .add (.loc "gone") (.int 1)))))
      (.ifS (.cmp .ne (.call "_law_heard" (.acons (.loc "shorter") (.acons (.int 2) .anil))) (.tup (.acons (.bin .add (.sub (.sub (.loc "rows") (.loc "gone")) (.int 1)) (.str " is wanted")) (.acons (.sub (.sub (.loc "rows") (.bin .add (.loc "gone") (.int 1))) (.int 2)) .anil))))
        (.ret (.bool false)
        .nil)
        .nil
      .nil))
    (.asgT ["start", "many"] (.tup (.acons (.bin .add (.int 33) (.call "_law_roll" (.acons (.loc "tray") (.acons (.int 6) .anil)))) (.acons (.bin .add (.int 1) (.call "_law_roll" (.acons (.loc "tray") (.acons (.int 7) .anil)))) .anil)))
    (.asgT ["tokens", "node"] (.call "_law_nested" (.acons (.loc "many") .anil))
    (.asg "deep_one" (.new (.loc "tokens"))
    (.asgAttr (.loc "deep_one") "depth" (.loc "start")
    (.ifS (.cmp .gt (.bin .add (.loc "start") (.loc "many")) (.int 40))
      (.ret (.cmp .eq (.call "_law_heard" (.acons (.loc "deep_one") (.acons (.int 1) .anil))) (.tup (.acons (.str "expressions are nested too deeply") (.acons (.sub (.sub (.loc "tokens") (.bin .mul (.int 3) (.bin .sub (.int 40) (.loc "start")))) (.int 2)) .anil))))
      .nil)
      .nil
    (.ret (.and (.cmp .eq (.call "_law_heard" (.acons (.loc "deep_one") (.acons (.int 1) .anil))) (.loc "node")) (.and (.cmp .eq (.attr (.loc "deep_one") "place") (.bin .sub (.len (.loc "tokens")) (.int 1))) (.cmp .eq (.attr (.loc "deep_one") "depth") (.loc "start"))))
    .nil))))))))))))))⟩
noncomputable def lawL : List (String × FnDef) := [("_law_roll", f_law_roll), ("_law_laid", f_law_laid), ("_law_part", f_law_part), ("_law_chosen", f_law_chosen), ("_law_heard", f_law_heard), ("_law_nested", f_law_nested)]
noncomputable def lawNames : List String := ["_law_roll", "_law_laid", "_law_part", "_law_chosen", "_law_heard", "_law_nested"]
noncomputable def progL : List (String × FnDef) := lawL ++ methL
end Mine.L1
end
section
/-! The pure proof, part 1: the parser's small methods. -/
set_option maxRecDepth 100000
set_option linter.unusedVariables false
set_option linter.unusedSimpArgs false
namespace Mine

noncomputable def MT (tbl : String → Option FnDef) : Prop := ∀ x d, methL.lookup x = some d → tbl x = some d


noncomputable abbrev pobj (t : Nat) (k : Nat) (d : Int) : PO := .inst [("tokens", .obj t), ("place", .int (k : Int)), ("depth", .int d)]
noncomputable abbrev tok (kd : String) (v : PV) (s : Int) : PV := .tup [.str kd, v, .int s]

structure PSt (σ : Hp) (p t : Nat) (ts : List PV) (k : Nat) (d : Int) : Prop where
  at_ : σ[p]? = some (pobj t k d)
  toks : σ[t]? = some (.list ts)
  small : ts.length ≤ 1000000
  deep : 0 ≤ d ∧ d ≤ 1000

/-- all but one object as it was -/
structure Keep (p : Nat) (σ σ' : Hp) : Prop where
  len : σ.length ≤ σ'.length
  same : ∀ (i : Nat), i < σ.length → i ≠ p → σ'[i]? = σ[i]?
theorem Keep.refl (p : Nat) (σ : Hp) : Keep p σ σ := ⟨Nat.le_refl _, fun _ _ _ => rfl⟩
theorem Keep.trans {p : Nat} {a b c : Hp} (x : Keep p a b) (y : Keep p b c) : Keep p a c :=
  ⟨Nat.le_trans x.len y.len, fun i hi hp => (y.same i (Nat.lt_of_lt_of_le hi x.len) hp).trans (x.same i hi hp)⟩

section
variable {σ : Hp} {p t k : Nat} {ts : List PV} {d : Int}
theorem PSt.inst (st : PSt σ p t ts k d) : instAt σ p = some [("tokens", .obj t), ("place", .int (k : Int)), ("depth", .int d)] := instAt_of st.at_
theorem PSt.seq (st : PSt σ p t ts k d) : seqAt σ t = some ts := seqAt_of st.toks
theorem PSt.ne (st : PSt σ p t ts k d) : p ≠ t := fun e => nomatch (Option.some.inj ((e ▸ st.at_.symm).trans st.toks) : PO.inst _ = PO.list _)
theorem PSt.lt (st : PSt σ p t ts k d) : p < σ.length := (List.getElem?_eq_some_iff.mp st.at_).1
theorem PSt.ltt (st : PSt σ p t ts k d) : t < σ.length := (List.getElem?_eq_some_iff.mp st.toks).1
theorem PSt.tokens (st : PSt σ p t ts k d) : attrV (.obj p) "tokens" σ = .ok (.obj t) σ := attrV_ok st.inst rfl
theorem PSt.place (st : PSt σ p t ts k d) : attrV (.obj p) "place" σ = .ok (.int k) σ := attrV_ok st.inst rfl
theorem PSt.depth (st : PSt σ p t ts k d) : attrV (.obj p) "depth" σ = .ok (.int d) σ := attrV_ok st.inst rfl

theorem getL_of {l : List PV} {i : Int} {j : Nat} {v : PV} (hi : i.natAbs ≤ 1000000000000) (h1 : pyIdx i l.length = some j) (h : l[j]? = some v) : getL l i σ = .ok v σ := by
  refine (if_pos hi).trans ?_
  have : (pyIdx i l.length).bind (l[·]?) = some v := by rw [h1]; exact h
  show onSome .stuck ((pyIdx i l.length).bind (l[·]?)) (fun v => Res.ok v σ) = _
  rw [this]; rfl
theorem pyIdx_nat {j n : Nat} (h : j < n) : pyIdx (j : Int) n = some j := by
  have h1 : ¬ ((j : Int) < 0) := by omega
  have h2 : (decide (0 ≤ (j : Int)) && decide ((j : Int) < n)) = true := by rw [decide_eq_true (by omega), decide_eq_true (by omega)]; rfl
  show (if (decide (0 ≤ (if (j : Int) < 0 then (j : Int) + n else j)) && decide ((if (j : Int) < 0 then (j : Int) + n else j) < (n : Int))) = true then some ((if (j : Int) < 0 then (j : Int) + n else j)).toNat else Option.none) = _
  rw [if_neg h1, if_pos h2]
  rfl
theorem getL_nat {l : List PV} {j : Nat} {v : PV} (h : l[j]? = some v) (hl : l.length ≤ 1000000) : getL l (j : Int) σ = .ok v σ :=
  have hj : j < l.length := (List.getElem?_eq_some_iff.mp h).1
  getL_of (by omega) (pyIdx_nat hj) h
theorem PSt.tok (st : PSt σ p t ts k d) {j : Nat} {v : PV} (h : ts[j]? = some v) : subV (.obj t) (.int (j : Int)) σ = .ok v σ := (subV_list st.seq).trans (getL_nat h st.small)
theorem sub_t0 {a b c : PV} : subV (.tup [a, b, c]) (.int 0) σ = .ok a σ := rfl
theorem sub_t1 {a b c : PV} : subV (.tup [a, b, c]) (.int 1) σ = .ok b σ := rfl
theorem sub_t2 {a b c : PV} : subV (.tup [a, b, c]) (.int 2) σ = .ok c σ := rfl
end

/-- a place or a depth is stored -/
noncomputable def upd (σ : Hp) (p t k : Nat) (d : Int) : Hp := σ.set p (pobj t k d)
section
variable {σ : Hp} {p t k k' : Nat} {ts : List PV} {d d' : Int}
theorem PSt.upd (st : PSt σ p t ts k d) (k' : Nat) {d' : Int} (hd : 0 ≤ d' ∧ d' ≤ 1000) : PSt (upd σ p t k' d') p t ts k' d' :=
  ⟨List.getElem?_set_self st.lt, (List.getElem?_set_ne st.ne).trans st.toks, st.small, hd⟩
theorem Keep.upd (σ : Hp) (p t k : Nat) (d : Int) : Keep p σ (upd σ p t k d) :=
  ⟨Nat.le_of_eq List.length_set.symm, fun i hi hp => List.getElem?_set_ne (Ne.symm hp)⟩
theorem PSt.setPlace (st : PSt σ p t ts k d) (k' : Nat) : setAttrV (.obj p) "place" (.int (k' : Int)) σ = .ok () (Mine.upd σ p t k' d) := setAttrV_ok st.inst (by show 3 ≤ 100; decide)
theorem PSt.setDepth (st : PSt σ p t ts k d) (d' : Int) : setAttrV (.obj p) "depth" (.int d') σ = .ok () (Mine.upd σ p t k d') := setAttrV_ok st.inst (by show 3 ≤ 100; decide)
end

theorem ev_self0 {cf : CF} {sc : Option (List Int)} {ρ : Loc} {σ : Hp} {p t k : Nat} {ts : List PV} {d : Int} (st : PSt σ p t ts k d) (hρ : ρ "self" = some (.obj p)) {f : String} (hf : getKey f [("tokens", PV.obj t), ("place", .int (k : Int)), ("depth", .int d)] = Option.none) {as : PE} {l : List PV} {σ' : Hp} (ha : ev cf sc as ρ σ = .ok (.tup l) σ') :
    ev cf sc (.meth (.loc "self") f as) ρ σ = cf ("." ++ f) (.obj p :: l) σ' := ev_meth (ev_loc hρ) st.inst hf ha
theorem ev_self {cf : CF} {ρ : Loc} {σ : Hp} {p t k : Nat} {ts : List PV} {d : Int} (st : PSt σ p t ts k d) (hρ : ρ "self" = some (.obj p)) {f : String} (hf : getKey f [("tokens", PV.obj t), ("place", .int (k : Int)), ("depth", .int d)] = Option.none) :
    ev cf Option.none (.meth (.loc "self") f .anil) ρ σ = cf ("." ++ f) [.obj p] σ := ev_self0 st hρ hf ev_anil
theorem ev_self1 {cf : CF} {ρ : Loc} {σ : Hp} {p t k : Nat} {ts : List PV} {d : Int} (st : PSt σ p t ts k d) (hρ : ρ "self" = some (.obj p)) {f x : String} (hf : getKey f [("tokens", PV.obj t), ("place", .int (k : Int)), ("depth", .int d)] = Option.none) :
    ev cf Option.none (.meth (.loc "self") f (.acons (.str x) .anil)) ρ σ = cf ("." ++ f) [.obj p, .str x] σ := ev_self0 st hρ hf (ev_acons rfl ev_anil)
theorem ev_self1L {cf : CF} {ρ : Loc} {σ : Hp} {p t k : Nat} {ts : List PV} {d : Int} (st : PSt σ p t ts k d) (hρ : ρ "self" = some (.obj p)) {f x : String} {v : PV} (hv : ρ x = some v) (hf : getKey f [("tokens", PV.obj t), ("place", .int (k : Int)), ("depth", .int d)] = Option.none) :
    ev cf Option.none (.meth (.loc "self") f (.acons (.loc x) .anil)) ρ σ = cf ("." ++ f) [.obj p, v] σ := ev_self0 st hρ hf (ev_acons (ev_loc hv) ev_anil)

section
variable {tbl : String → Option FnDef} {w n : Nat} {σ : Hp} {p t k : Nat} {ts : List PV} {d : Int} {kd : String} {v : PV} {s : Int}

theorem add1 (st : PSt σ p t ts k d) (h : k < ts.length) (σ' : Hp) : okInt ((k : Int) + 1) σ' = .ok (.int ((k + 1 : Nat) : Int)) σ' := by
  have := st.small
  exact okInt_ok (i := ((k + 1 : Nat) : Int)) (by omega)
theorem aug1 (st : PSt σ p t ts k d) (h : k < ts.length) : augV .add (.int (k : Int)) (.int 1) σ = .ok (.int ((k + 1 : Nat) : Int)) σ := add1 st h σ
/-- the token that stands here -/
theorem ev_here {cf : CF} {sc : Option (List Int)} {ρ : Loc} (st : PSt σ p t ts k d) (hρ : ρ "self" = some (.obj p)) {v : PV} (h : ts[k]? = some v) : ev cf sc (.sub (.attr (.loc "self") "tokens") (.attr (.loc "self") "place")) ρ σ = .ok v σ :=
  (ev_sub ((ev_attr (ev_loc hρ)).trans st.tokens) ((ev_attr (ev_loc hρ)).trans st.place)).trans (st.tok h)
theorem ev_here0 {cf : CF} {sc : Option (List Int)} {ρ : Loc} (st : PSt σ p t ts k d) (hρ : ρ "self" = some (.obj p)) (h : ts[k]? = some (tok kd v s)) : ev cf sc (.sub (.sub (.attr (.loc "self") "tokens") (.attr (.loc "self") "place")) (.int 0)) ρ σ = .ok (.str kd) σ := (ev_sub (ev_here st hρ h) rfl).trans sub_t0
theorem ev_here1 {cf : CF} {sc : Option (List Int)} {ρ : Loc} (st : PSt σ p t ts k d) (hρ : ρ "self" = some (.obj p)) (h : ts[k]? = some (tok kd v s)) : ev cf sc (.sub (.sub (.attr (.loc "self") "tokens") (.attr (.loc "self") "place")) (.int 1)) ρ σ = .ok v σ := (ev_sub (ev_here st hρ h) rfl).trans sub_t1
theorem kind_ok (mt : MT tbl) (st : PSt σ p t ts k d) (h : ts[k]? = some (tok kd v s)) : callN tbl w (n + 1) ".kind" [.obj p] σ = .ok (.str kd) σ :=
  call_ok (mt ".kind" m_kind rfl) rfl (ex_ret (ev_here0 st rfl h))
theorem spot_ok (mt : MT tbl) (st : PSt σ p t ts k d) (h : ts[k]? = some (tok kd v s)) : callN tbl w (n + 1) ".spot" [.obj p] σ = .ok (.int s) σ :=
  call_ok (mt ".spot" m_spot rfl) rfl (ex_ret ((ev_sub (ev_here st rfl h) rfl).trans sub_t2))
theorem take_ok (mt : MT tbl) (st : PSt σ p t ts k d) (h : ts[k]? = some (tok kd v s)) : callN tbl w (n + 1) ".take" [.obj p] σ = .ok v (upd σ p t (k + 1) d) := by
  have st' := st.upd (k + 1) st.deep
  have e2 : binV .sub (.int ((k + 1 : Nat) : Int)) (.int 1) (upd σ p t (k + 1) d) = .ok (.int (k : Int)) (upd σ p t (k + 1) d) := by
    have hk : k < ts.length := (List.getElem?_eq_some_iff.mp h).1
    have sm := st.small
    show okInt (((k + 1 : Nat) : Int) - 1) (upd σ p t (k + 1) d) = _
    rw [show (((k + 1 : Nat) : Int) - 1) = (k : Int) from by omega]
    exact okInt_ok (by omega)
  exact call_ok (mt ".take" m_take rfl) rfl ((ex_augAttr (ev_loc rfl) st.place rfl (aug1 st (List.getElem?_eq_some_iff.mp h).1) (st.setPlace (k + 1))).trans
    (ex_ret ((ev_sub ((ev_sub ((ev_attr (ev_loc rfl)).trans st'.tokens) ((ev_bin ((ev_attr (ev_loc rfl)).trans st'.place) rfl).trans e2)).trans (st'.tok h)) rfl).trans sub_t1)))

noncomputable def isn (kd : String) (v : PV) (x : String) : Bool := (kd == "word" || kd == "sign") && PV.eqb v (.str x)

theorem isin_ws (kd : String) : inL (.str kd) [.str "word", .str "sign"] = some (kd == "word" || kd == "sign") := by
  show some (("word" == kd) || (("sign" == kd) || false)) = _
  rw [Bool.beq_comm (a := "word"), Bool.beq_comm (a := "sign"), Bool.or_false]
theorem ev_ws {cf : CF} {sc : Option (List Int)} {ρ : Loc} {a : PE} (h : ev cf sc a ρ σ = .ok (.str kd) σ) : ev cf sc (.isin false a (.tup (.acons (.str "word") (.acons (.str "sign") .anil)))) ρ σ = .ok (.bool (kd == "word" || kd == "sign")) σ :=
  (ev_isin h (ev_tup (ev_acons rfl (ev_acons rfl ev_anil)) (by show 2 ≤ 100000; decide)) (isin_ws kd)).trans (by rw [Bool.bne_false])

/-- what a token may bear -/
noncomputable def tv (v : PV) : Bool := match v with
  | .str _ | .int _ => true
  | _ => false
theorem eqV_tv {v : PV} (h : tv v = true) (x : String) : eqV v (.str x) σ = some (PV.eqb v (.str x)) := by
  cases v <;> first | rfl | exact nomatch h

theorem is_next_ok (mt : MT tbl) (st : PSt σ p t ts k d) (h : ts[k]? = some (tok kd v s)) (hv : tv v = true) (x : String) : callN tbl w (n + 1) ".is_next" [.obj p, .str x] σ = .ok (.bool (isn kd v x)) σ := by
  refine call_ok (mt ".is_next" m_is_next rfl) rfl (ex_ret ?_)
  have e : ∀ b, (kd == "word" || kd == "sign") = b → ev (callN tbl w n) Option.none (.isin false (.sub (.sub (.attr (.loc "self") "tokens") (.attr (.loc "self") "place")) (.int 0)) (.tup (.acons (.str "word") (.acons (.str "sign") .anil)))) ((Loc.empty.set "value" (.str x)).set "self" (.obj p)) σ = .ok (.bool b) σ := fun b hb => (ev_ws (ev_here0 st rfl h)).trans (by rw [hb])
  unfold isn
  cases hb : (kd == "word" || kd == "sign") with
  | true => exact (ev_and_t (e _ hb)).trans ((ev_cmp (ev_here1 st rfl h) (ev_loc rfl)).trans (cmp_eq (eqV_tv hv x)))
  | false => exact ev_and_f (e _ hb)

theorem took_ok (mt : MT tbl) (st : PSt σ p t ts k d) (h : ts[k]? = some (tok kd v s)) (hv : tv v = true) (x : String) :
    callN tbl w (n + 2) ".took" [.obj p, .str x] σ = if isn kd v x then .ok (.bool true) (upd σ p t (k + 1) d) else .ok (.bool false) σ := by
  have e : ev (callN tbl w (n + 1)) Option.none (.meth (.loc "self") "is_next" (.acons (.loc "value") .anil)) ((Loc.empty.set "value" (.str x)).set "self" (.obj p)) σ = .ok (.bool (isn kd v x)) σ := (ev_self1L st rfl rfl rfl).trans (is_next_ok (w := w) (n := n) mt st h hv x)
  cases hb : isn kd v x with
  | true =>
    rw [hb] at e
    exact call_ok (mt ".took" m_took rfl) rfl (ex_if_ret e ((ex_augAttr (ev_loc rfl) st.place rfl (aug1 st (List.getElem?_eq_some_iff.mp h).1) (st.setPlace (k + 1))).trans (ex_ret rfl)))
  | false =>
    rw [hb] at e
    exact call_ok (mt ".took" m_took rfl) rfl ((ex_skip e).trans (ex_ret rfl))
theorem took_yes (mt : MT tbl) (st : PSt σ p t ts k d) (h : ts[k]? = some (tok kd v s)) (hv : tv v = true) {x : String} (hx : isn kd v x = true) : callN tbl w (n + 2) ".took" [.obj p, .str x] σ = .ok (.bool true) (upd σ p t (k + 1) d) := (took_ok mt st h hv x).trans (if_pos hx)
theorem took_no (mt : MT tbl) (st : PSt σ p t ts k d) (h : ts[k]? = some (tok kd v s)) (hv : tv v = true) {x : String} (hx : isn kd v x = false) : callN tbl w (n + 2) ".took" [.obj p, .str x] σ = .ok (.bool false) σ := (took_ok mt st h hv x).trans (if_neg (by rw [hx]; decide))
theorem want_ok (mt : MT tbl) (st : PSt σ p t ts k d) (h : ts[k]? = some (tok kd v s)) (hv : tv v = true) {x : String} (hx : isn kd v x = true) :
    callN tbl w (n + 3) ".want" [.obj p, .str x] σ = .ok .none (upd σ p t (k + 1) d) :=
  call_none (mt ".want" m_want rfl) rfl ((ex_skip (ev_notT ((ev_self1L st rfl rfl rfl).trans (took_yes (w := w) (n := n) mt st h hv hx)))).trans rfl)
theorem want_err (mt : MT tbl) (st : PSt σ p t ts k d) (h : ts[k]? = some (tok kd v s)) (hv : tv v = true) {x : String} (hx : isn kd v x = false) (hl : x.length ≤ 1000) :
    callN tbl w (n + 3) ".want" [.obj p, .str x] σ = .err (x ++ " is wanted") s σ := by
  have e2 : callN tbl w (n + 2) ".spot" [.obj p] σ = .ok (.int s) σ := spot_ok (w := w) (n := n + 1) mt st h
  have e3 : (x ++ " is wanted").length ≤ 100000 := by
    rw [String.length_append, show " is wanted".length = 10 from rfl]; omega
  exact call_err (mt ".want" m_want rfl) rfl (ex_if_bad (ev_notF ((ev_self1L st rfl rfl rfl).trans (took_no (w := w) (n := n) mt st h hv hx))) (ex_raise ((ev_bin (ev_loc rfl) rfl).trans (add_str e3)) ((ev_self st rfl rfl).trans e2)))

theorem ev_kindIn (mt : MT tbl) (st : PSt σ p t ts k d) (h : ts[k]? = some (tok kd v s)) {b : Bool} (hb : (kd == "word" || kd == "sign") = b) {ρ : Loc} (hρ : ρ "self" = some (.obj p)) :
    ev (callN tbl w (n + 1)) Option.none (.isin true (.meth (.loc "self") "kind" .anil) (.tup (.acons (.str "word") (.acons (.str "sign") .anil)))) ρ σ = .ok (.bool (b != true)) σ :=
  (ev_isin ((ev_self st hρ rfl).trans (kind_ok (w := w) (n := n) mt st h)) (ev_tup (ev_acons rfl (ev_acons rfl ev_anil)) (by show 2 ≤ 100000; decide)) (isin_ws kd)).trans (by rw [hb])
theorem level_get (mt : MT tbl) {x : String} {r : PV} (st : PSt σ p t ts k d) (h : ts[k]? = some (tok kd (.str x) s)) (hb : (kd == "word" || kd == "sign") = true) (hx : (getKey x (levelsTab.map fun p => (p.1, PV.int p.2))).getD (.int 0) = r) :
    callN tbl w (n + 2) ".level" [.obj p] σ = .ok r σ := by
  have e : ev (callN tbl w (n + 1)) Option.none (.gget "LEVELS" (.sub (.sub (.attr (.loc "self") "tokens") (.attr (.loc "self") "place")) (.int 1)) (.int 0)) (Loc.empty.set "self" (.obj p)) σ = .ok r σ :=
    (bindE (ev_here1 st rfl h)).trans (show Res.ok ((getKey x (levelsTab.map fun p => (p.1, PV.int p.2))).getD (.int 0)) σ = _ by rw [hx])
  exact call_ok (mt ".level" m_level rfl) rfl ((ex_skip (ev_kindIn (w := w) (n := n) mt st h hb rfl)).trans (ex_ret e))
theorem level_zero (mt : MT tbl) (st : PSt σ p t ts k d) (h : ts[k]? = some (tok kd v s)) (hz : (kd == "word" || kd == "sign") = false ∨ ∃ x, v = .str x ∧ getKey x (levelsTab.map fun p => (p.1, PV.int p.2)) = Option.none) :
    callN tbl w (n + 2) ".level" [.obj p] σ = .ok (.int 0) σ := by
  cases hb : (kd == "word" || kd == "sign") with
  | true =>
    rcases hz with hz | ⟨x, rfl, hx⟩
    · rw [hb] at hz; exact nomatch hz
    · exact level_get mt st h hb (by rw [hx]; rfl)
  | false => exact call_ok (mt ".level" m_level rfl) rfl (ex_if_ret (ev_kindIn (w := w) (n := n) mt st h hb rfl) (ex_ret rfl))
theorem level_op (mt : MT tbl) {x : String} {i : Int} (st : PSt σ p t ts k d) (h : ts[k]? = some (tok kd (.str x) s)) (hb : (kd == "word" || kd == "sign") = true) (hx : getKey x (levelsTab.map fun p => (p.1, PV.int p.2)) = some (.int i)) :
    callN tbl w (n + 2) ".level" [.obj p] σ = .ok (.int i) σ := level_get mt st h hb (by rw [hx]; rfl)
end

theorem PSt.grow {σ : Hp} {p t k : Nat} {ts : List PV} {d : Int} (st : PSt σ p t ts k d) (l : Hp) : PSt (σ ++ l) p t ts k d :=
  ⟨(List.getElem?_append_left st.lt).trans st.at_, (List.getElem?_append_left st.ltt).trans st.toks, st.small, st.deep⟩
theorem Keep.grow (p : Nat) (σ l : Hp) : Keep p σ (σ ++ l) := ⟨by rw [List.length_append]; exact Nat.le_add_right .., fun i hi _ => List.getElem?_append_left hi⟩
end Mine
end
section
/-! The pure proof, part 2: atom, operand, expr. -/
set_option maxRecDepth 100000
set_option linter.unusedVariables false
set_option linter.unusedSimpArgs false
namespace Mine

section
variable (tbl : String → Option FnDef) (w : Nat)
noncomputable def Does (N : Nat) (m : String) (args ts : List PV) (k : Nat) (d : Int) (v : PV) (k' : Nat) : Prop :=
  ∀ n, N ≤ n → ∀ σ p t, PSt σ p t ts k d → ∃ σ', callN tbl w n m (.obj p :: args) σ = .ok v σ' ∧ PSt σ' p t ts k' d ∧ Keep p σ σ'
noncomputable def Fails (N : Nat) (m : String) (args ts : List PV) (k : Nat) (d : Int) (x : String) (s : Int) : Prop :=
  ∀ n, N ≤ n → ∀ σ p t, PSt σ p t ts k d → ∃ σ', callN tbl w n m (.obj p :: args) σ = .err x s σ' ∧ Keep p σ σ'
end

section
variable {tbl : String → Option FnDef} {w N N' : Nat} {m : String} {args ts : List PV} {k k' : Nat} {d : Int} {v : PV} {x : String} {s : Int}
theorem Does.mono (h : Does tbl w N m args ts k d v k') (hn : N ≤ N') : Does tbl w N' m args ts k d v k' := fun n hn' => h n (Nat.le_trans hn hn')
theorem Fails.mono (h : Fails tbl w N m args ts k d x s) (hn : N ≤ N') : Fails tbl w N' m args ts k d x s := fun n hn' => h n (Nat.le_trans hn hn')

/-- the block behind the first statement -/
noncomputable def PB.next : PB → PB
  | .expr _ k | .asg _ _ k | .asgT _ _ k | .ifS _ _ _ k | .whileS _ _ k | .augAttr _ _ _ _ k | .augLoc _ _ _ k | .forR _ _ _ k | .forL _ _ _ k | .asgItem _ _ _ k | .asgAttr _ _ _ k => k
  | k => k
/-- the block within the first statement -/
noncomputable def PB.inner : PB → PB
  | .whileS _ b _ | .ifS _ b _ _ | .forR _ _ b _ | .forL _ _ b _ => b
  | k => k
theorem ret_pass {r : Res PV} {ρ : Loc} {g : SR} : thenK (r.bind fun v σ => .ok (.ret v, ρ) σ) g = r.bind fun v σ => .ok (.ret v, ρ) σ := by cases r <;> rfl
/-- a def that hands back what a call hands back, a fault too -/
theorem call_pass {n : Nat} {vs : List PV} {f : FnDef} {ρ ρ' : Loc} {σ : Hp} {r : Res PV} (h : tbl m = some f) (hb : bindL f.params vs = some ρ) (hx : ex (callN tbl w n) Option.none w f.body ρ σ = r.bind fun v σ => .ok (.ret v, ρ') σ) : callN tbl w (n + 1) m vs σ = r := by
  rw [call_eq h hb, hx]; cases r <;> rfl
theorem ex_ret_pass {cf : CF} {e : PE} {ρ : Loc} {σ : Hp} {K : PB} {r : Res PV} (h : ev cf Option.none e ρ σ = r) : ex cf Option.none w (.ret e K) ρ σ = r.bind fun v σ => .ok (.ret v, ρ) σ := by rw [← h]; rfl
theorem ex_if_pass {cf : CF} {c : PE} {ρ ρ' : Loc} {σ σ₁ : Hp} {b b' K : PB} {r : Res PV} (h : ev cf Option.none c ρ σ = .ok (.bool true) σ₁) (hb : ex cf Option.none w b ρ σ₁ = r.bind fun v σ => .ok (.ret v, ρ') σ) : ex cf Option.none w (.ifS c b b' K) ρ σ = r.bind fun v σ => .ok (.ret v, ρ') σ := by
  rw [ex_if_true (testR_eq h), hb, ret_pass]

/-- the names of atom -/
noncomputable abbrev rA (p : Nat) (kd : String) (v : PV) (s : Int) : Loc := (Loc.empty.set "self" (.obj p)).setAll ["kind", "value", "spot"] [.str kd, v, .int s]
noncomputable abbrev A1 : PB := m_atom.body.next
noncomputable abbrev A5 : PB := m_atom.body.next.next.next.next.next
theorem ev_locStr {cf : CF} {ρ : Loc} {σ : Hp} {y z q : String} (h : ρ y = some (.str z)) {b : Bool} (hb : (z == q) = b) : ev cf Option.none (.cmp .eq (.loc y) (.str q)) ρ σ = .ok (.bool b) σ := (ev_cmp (ev_loc h) rfl).trans ((cmp_eq (eqV_str z q σ)).trans (by rw [hb]))
theorem atom_start (mt : MT tbl) {σ : Hp} {p t n : Nat} {kd : String} {v : PV} {s : Int} {ρ' : Loc} {r : Res PV} (st : PSt σ p t ts k d) (h : ts[k]? = some (tok kd v s)) (hx : ex (callN tbl w n) Option.none w A1 (rA p kd v s) σ = r.bind fun v σ => .ok (.ret v, ρ') σ) : callN tbl w (n + 1) ".atom" [.obj p] σ = r :=
  call_pass (mt ".atom" m_atom rfl) rfl ((ex_asgT (ev_here st rfl h) rfl).trans hx)
theorem atom_sg (mt : MT tbl) {σ : Hp} {p t n : Nat} {kd y : String} {s : Int} {ρ' : Loc} {r : Res PV} (st : PSt σ p t ts k d) (hk : kd = "word" ∨ kd = "sign") (h : ts[k]? = some (tok kd (.str y) s)) (h1 : (y == "true") = false) (h2 : (y == "false") = false)
    (hx : ex (callN tbl w n) Option.none w A5 (rA p kd (.str y) s) σ = r.bind fun v σ => .ok (.ret v, ρ') σ) : callN tbl w (n + 1) ".atom" [.obj p] σ = r := by
  have q : (kd == "int") = false ∧ (kd == "str") = false ∧ (kd == "name") = false := by rcases hk with rfl | rfl <;> exact ⟨rfl, rfl, rfl⟩
  exact atom_start mt st h ((ex_skip (ev_locStr rfl q.1)).trans ((ex_skip (ev_locStr rfl q.2.1)).trans ((ex_skip (ev_locStr rfl q.2.2)).trans ((ex_skip ((ev_or_f (ev_locStr rfl h1)).trans (ev_locStr rfl h2))).trans hx))))
/-- not this sign -/
theorem sk_took (mt : MT tbl) {σ : Hp} {p t n : Nat} {kd : String} {v : PV} {s : Int} {b K : PB} {y : String} (st : PSt σ p t ts k d) (h : ts[k]? = some (tok kd v s)) (hv : tv v = true) (hx : isn kd v y = false) :
    ex (callN tbl w (n + 2)) Option.none w (.ifS (.meth (.loc "self") "took" (.acons (.str y) .anil)) b .nil K) (rA p kd v s) σ = ex (callN tbl w (n + 2)) Option.none w K (rA p kd v s) σ := ex_skip ((ev_self1 st rfl rfl).trans (took_no mt st h hv hx))
/-- this sign -/
theorem hit_took (mt : MT tbl) {σ : Hp} {p t n : Nat} {kd : String} {v : PV} {s : Int} {b K : PB} {y : String} {ρ' : Loc} {r : Res PV} (st : PSt σ p t ts k d) (h : ts[k]? = some (tok kd v s)) (hv : tv v = true) (hx : isn kd v y = true)
    (hb : ex (callN tbl w (n + 2)) Option.none w b (rA p kd v s) (upd σ p t (k + 1) d) = r.bind fun v σ => .ok (.ret v, ρ') σ) :
    ex (callN tbl w (n + 2)) Option.none w (.ifS (.meth (.loc "self") "took" (.acons (.str y) .anil)) b .nil K) (rA p kd v s) σ = r.bind fun v σ => .ok (.ret v, ρ') σ := ex_if_pass ((ev_self1 st rfl rfl).trans (took_yes mt st h hv hx)) hb

theorem atom_int (mt : MT tbl) {i : Int} (h : ts[k]? = some (tok "int" (.int i) s)) : Does tbl w 2 ".atom" [] ts k d (.tup [.str "int", .int s, .int i]) (k + 1) := by
  intro n hn σ p t st
  obtain ⟨n, rfl⟩ := Nat.exists_eq_add_of_le' hn
  refine ⟨upd σ p t (k + 1) d, ?_, st.upd _ st.deep, Keep.upd ..⟩
  exact atom_start mt st h (ex_if_pass (ev_locStr rfl rfl) (ex_ret_pass (r := .ok _ _) (ev_tup (ev_acons rfl (ev_acons (ev_loc rfl) (ev_acons ((ev_self st rfl rfl).trans (take_ok (w := w) (n := n) mt st h)) ev_anil))) (by show 3 ≤ 100000; decide))))

theorem atom_bool (mt : MT tbl) {y : String} (hy : y = "true" ∨ y = "false") (h : ts[k]? = some (tok "word" (.str y) s)) : Does tbl w 2 ".atom" [] ts k d (.tup [.str "bool", .int s, .bool (y == "true")]) (k + 1) := by
  intro n hn σ p t st
  obtain ⟨n, rfl⟩ := Nat.exists_eq_add_of_le' hn
  refine ⟨upd σ p t (k + 1) d, ?_, st.upd _ st.deep, Keep.upd ..⟩
  have e : ev (callN tbl w (n + 1)) Option.none (.or (.cmp .eq (.loc "value") (.str "true")) (.cmp .eq (.loc "value") (.str "false"))) (rA p "word" (.str y) s) σ = .ok (.bool true) σ := by
    rcases hy with rfl | rfl
    · exact ev_or_t (ev_locStr rfl rfl)
    · exact (ev_or_f (ev_locStr rfl rfl)).trans (ev_locStr rfl rfl)
  exact atom_start mt st h ((ex_skip (ev_locStr rfl rfl)).trans ((ex_skip (ev_locStr rfl rfl)).trans ((ex_skip (ev_locStr rfl rfl)).trans (ex_if_pass e (ex_ret_pass (r := .ok _ _)
    (ev_tup (ev_acons rfl (ev_acons (ev_loc rfl) (ev_acons ((ev_cmp ((ev_self st rfl rfl).trans (take_ok (w := w) (n := n) mt st h)) rfl).trans (cmp_eq (eqV_str ..))) ev_anil))) (by show 3 ≤ 100000; decide)))))))

theorem named_plain (mt : MT tbl) {kd : String} {u : PV} {s' : Int} {y : String} (h : ts[k]? = some (tok kd u s')) (hu : tv u = true) (hb : isn kd u "(" = false) :
    Does tbl w 3 ".named" [.int s, .str y] ts k d (.tup [.str "name", .int s, .str y]) k := by
  intro n hn σ p t st
  obtain ⟨n, rfl⟩ := Nat.exists_eq_add_of_le' hn
  refine ⟨σ, ?_, st, Keep.refl ..⟩
  exact call_ok (mt ".named" m_named rfl) rfl (ex_if_ret (ev_notF ((ev_self1 st rfl rfl).trans (took_no mt st h hu hb))) (ex_ret (ev_tup (ev_acons rfl (ev_acons (ev_loc rfl) (ev_acons (ev_loc rfl) ev_anil))) (by show 3 ≤ 100000; decide))))

/-- a name: what named says -/
theorem atom_named_eq (mt : MT tbl) {σ : Hp} {p t n : Nat} (st : PSt σ p t ts k d) {y : String} (h : ts[k]? = some (tok "name" (.str y) s)) : callN tbl w (n + 2) ".atom" [.obj p] σ = callN tbl w (n + 1) ".named" [.obj p, .int s, .str y] (upd σ p t (k + 1) d) :=
  atom_start mt st h ((ex_skip (ev_locStr rfl rfl)).trans ((ex_skip (ev_locStr rfl rfl)).trans (ex_if_pass (ev_locStr rfl rfl) (ex_ret_pass
    (ev_self0 st rfl rfl (ev_acons (ev_loc rfl) (ev_acons ((ev_self st rfl rfl).trans (take_ok (w := w) (n := n) mt st h)) ev_anil)))))))
theorem atom_named (mt : MT tbl) {y : String} (h : ts[k]? = some (tok "name" (.str y) s)) (hN : Does tbl w (N + 1) ".named" [.int s, .str y] ts (k + 1) d v k') : Does tbl w (N + 2) ".atom" [] ts k d v k' := by
  intro n hn σ p t st
  obtain ⟨n, rfl⟩ := Nat.exists_eq_add_of_le' hn
  obtain ⟨σ', e', st', kp'⟩ := hN (n + N + 1) (by omega) _ p t (st.upd (k + 1) st.deep)
  exact ⟨σ', (atom_named_eq (w := w) (n := n + N) mt st h).trans e', st', (Keep.upd ..).trans kp'⟩
theorem atom_name (mt : MT tbl) {y : String} {kd : String} {u : PV} {s' : Int} (h : ts[k]? = some (tok "name" (.str y) s)) (h' : ts[k + 1]? = some (tok kd u s')) (hu : tv u = true) (hb : isn kd u "(" = false) :
    Does tbl w 4 ".atom" [] ts k d (.tup [.str "name", .int s, .str y]) (k + 1) := atom_named mt h (named_plain mt h' hu hb)

/-- an if: what choice says -/
theorem atom_if_eq (mt : MT tbl) {σ : Hp} {p t n : Nat} (st : PSt σ p t ts k d) (h : ts[k]? = some (tok "word" (.str "if") s)) : callN tbl w (n + 3) ".atom" [.obj p] σ = callN tbl w (n + 2) ".choice" [.obj p, .int s] (upd σ p t (k + 1) d) :=
  atom_sg mt st (.inl rfl) h rfl rfl ((sk_took mt st h rfl rfl).trans ((sk_took mt st h rfl rfl).trans ((sk_took mt st h rfl rfl).trans ((sk_took mt st h rfl rfl).trans
    (hit_took mt st h rfl rfl (ex_ret_pass (ev_self1L (st.upd (k + 1) st.deep) rfl rfl rfl)))))))
theorem atom_if (mt : MT tbl) (h : ts[k]? = some (tok "word" (.str "if") s)) (hN : Does tbl w (N + 2) ".choice" [.int s] ts (k + 1) d v k') : Does tbl w (N + 3) ".atom" [] ts k d v k' := by
  intro n hn σ p t st
  obtain ⟨n, rfl⟩ := Nat.exists_eq_add_of_le' hn
  obtain ⟨σ', e', st', kp'⟩ := hN (n + N + 2) (by omega) _ p t (st.upd (k + 1) st.deep)
  exact ⟨σ', (atom_if_eq (w := w) (n := n + N) mt st h).trans e', st', (Keep.upd ..).trans kp'⟩
theorem atom_if_err (mt : MT tbl) (h : ts[k]? = some (tok "word" (.str "if") s)) {s' : Int} (hN : Fails tbl w (N + 2) ".choice" [.int s] ts (k + 1) d x s') : Fails tbl w (N + 3) ".atom" [] ts k d x s' := by
  intro n hn σ p t st
  obtain ⟨n, rfl⟩ := Nat.exists_eq_add_of_le' hn
  obtain ⟨σ', e', kp'⟩ := hN (n + N + 2) (by omega) _ p t (st.upd (k + 1) st.deep)
  exact ⟨σ', (atom_if_eq (w := w) (n := n + N) mt st h).trans e', (Keep.upd ..).trans kp'⟩

theorem getElem_snoc (σ : Hp) (o : PO) : (σ ++ [o])[σ.length]? = some o := List.getElem?_concat_length
theorem Keep.at_ {p : Nat} {σ σ' : Hp} (kp : Keep p σ σ') {i : Nat} {o : PO} (h : σ[i]? = some o) (hp : i ≠ p) : σ'[i]? = some o :=
  (kp.same i (List.getElem?_eq_some_iff.mp h).1 hp).trans h

theorem Keep.seq {p : Nat} {σ σ' : Hp} (kp : Keep p σ σ') {i : Nat} {l : List PV} (h : σ[i]? = some (.list l)) (hp : i ≠ p) : seqAt σ' i = some l := seqAt_of (kp.at_ h hp)

noncomputable abbrev O2 : PB := m_operand.body.next.next
theorem ev_isnext (mt : MT tbl) {σ : Hp} {p t n : Nat} {kd y : String} {u : PV} {s : Int} {ρ : Loc} (st : PSt σ p t ts k d) (hρ : ρ "self" = some (.obj p)) (h : ts[k]? = some (tok kd u s)) (hu : tv u = true) {b : Bool} (hb : isn kd u y = b) :
    ev (callN tbl w (n + 1)) Option.none (.meth (.loc "self") "is_next" (.acons (.str y) .anil)) ρ σ = .ok (.bool b) σ := (ev_self1 st hρ rfl).trans ((is_next_ok mt st h hu y).trans (by rw [hb]))
/-- no sign ahead -/
theorem operand_start (mt : MT tbl) {σ : Hp} {p t n : Nat} {kd : String} {u : PV} {s : Int} {r : Res (Fl × Loc)} (st : PSt σ p t ts k d) (h : ts[k]? = some (tok kd u s)) (hu : tv u = true) (h1 : isn kd u "-" = false) (h2 : isn kd u "+" = false) (h3 : isn kd u "not" = false)
    (hx : ex (callN tbl (w + 1) (n + 1)) Option.none (w + 1) O2 ((Loc.empty.set "self" (.obj p)).set "ahead" (.obj σ.length)) (σ ++ [.list []]) = r) : ex (callN tbl (w + 1) (n + 1)) Option.none (w + 1) m_operand.body (Loc.empty.set "self" (.obj p)) σ = r := by
  have st1 := st.grow [.list []]
  exact (ex_asg (ev_listE ev_anil (Nat.zero_le _))).trans ((ex_while (loopW_exit (testR_eq ((ev_or_f (ev_isnext mt st1 rfl h hu h1)).trans ((ev_or_f (ev_isnext mt st1 rfl h hu h2)).trans (ev_isnext mt st1 rfl h hu h3)))))).trans hx)
/-- a term without a sign ahead and without an index behind -/
theorem operand_plain (mt : MT tbl) (hw : 20 ≤ w) {kd kd' : String} {u u' : PV} {s s' : Int} (h : ts[k]? = some (tok kd u s)) (hu : tv u = true) (h1 : isn kd u "-" = false) (h2 : isn kd u "+" = false) (h3 : isn kd u "not" = false)
    (hN : Does tbl w (N + 1) ".atom" [] ts k d v k') (h' : ts[k']? = some (tok kd' u' s')) (hu' : tv u' = true) (h4 : isn kd' u' "[" = false) : Does tbl w (N + 2) ".operand" [] ts k d v k' := by
  intro n hn σ p t st
  obtain ⟨n, rfl⟩ := Nat.exists_eq_add_of_le' hn
  obtain ⟨w, rfl⟩ := Nat.exists_eq_add_of_le' (Nat.le_trans (by decide : 1 ≤ 20) hw)
  obtain ⟨σ', e', st', kp'⟩ := hN (n + N + 1) (by omega) _ p t (st.grow [.list []])
  have hs : seqAt σ' σ.length = some [] := kp'.seq (getElem_snoc σ (.list [])) (Nat.ne_of_gt st.lt)
  refine ⟨σ', ?_, st', (Keep.grow p σ _).trans kp'⟩
  exact call_ok (mt ".operand" m_operand rfl) rfl (operand_start mt st h hu h1 h2 h3 ((ex_asg ((ev_self (st.grow _) rfl rfl).trans e')).trans
    ((ex_while (loopW_exit (testR_eq (ev_isnext (n := n + N) mt st' rfl h' hu' h4)))).trans ((ex_while (loopW_exit (testR_eq ((ev_cmp ((ev_len (ev_loc rfl)).trans (lenV_ok hs)) rfl).trans rfl)))).trans (ex_ret (ev_loc rfl))))))

theorem PSt.set {σ : Hp} {p t k : Nat} {ts : List PV} {d : Int} (st : PSt σ p t ts k d) {i : Nat} (h1 : i ≠ p) (h2 : i ≠ t) (o : PO) : PSt (σ.set i o) p t ts k d :=
  ⟨by rw [List.getElem?_set_ne h1]; exact st.at_, by rw [List.getElem?_set_ne h2]; exact st.toks, st.small, st.deep⟩
theorem Keep.setNew {p : Nat} {σ σ' : Hp} (kp : Keep p σ σ') {i : Nat} (h : σ.length ≤ i) (o : PO) : Keep p σ (σ'.set i o) :=
  ⟨by rw [List.length_set]; exact kp.len, fun j hj hp => by rw [List.getElem?_set_ne (by omega)]; exact kp.same j hj hp⟩

theorem ex_aug {cf : CF} {sc : Option (List Int)} {ρ : Loc} {σ : Hp} {p t k : Nat} {ts : List PV} {d : Int} {K : PB} {w : Nat} (st : PSt σ p t ts k d) (hρ : ρ "self" = some (.obj p)) {i : Int} (op : AOp) {d' : Int} (hop : augV op (.int d) (.int i) σ = .ok (.int d') σ) :
    ex cf sc w (.augAttr (.loc "self") "depth" op (.int i) K) ρ σ = ex cf sc w K ρ (upd σ p t k d') := ex_augAttr (ev_loc hρ) st.depth rfl hop (st.setDepth d')
noncomputable abbrev rX (p q : Nat) : Loc := (Loc.empty.set "self" (.obj p)).setAll ["parts", "waiting"] [.obj q, .obj (q + 1)]
theorem ev_tooDeep {cf : CF} {ρ : Loc} {σ : Hp} {p t : Nat} {e : Int} (st : PSt σ p t ts k e) (hρ : ρ "self" = some (.obj p)) {b : Bool} (hb : decide (40 < e) = b) : ev cf Option.none (.cmp .gt (.attr (.loc "self") "depth") (.gint "MOST_DEPTH")) ρ σ = .ok (.bool b) σ :=
  (ev_cmp ((ev_attr (ev_loc hρ)).trans st.depth) (ev_gint rfl)).trans ((cmp_gt e 40).trans (by rw [hb]))

theorem expr_deep (mt : MT tbl) {kd : String} {u : PV} (hd : 40 ≤ d) (hd' : d ≤ 900) (h : ts[k]? = some (tok kd u s)) : Fails tbl w 3 ".expr" [] ts k d "expressions are nested too deeply" s := by
  intro n hn σ p t st
  obtain ⟨n, rfl⟩ := Nat.exists_eq_add_of_le' hn
  have st1 := st.upd k (d' := d + 1) ⟨by omega, by omega⟩
  refine ⟨upd σ p t k (d + 1), ?_, Keep.upd ..⟩
  exact call_err (mt ".expr" m_expr rfl) rfl ((ex_aug st rfl .add (okInt_ok (by omega))).trans (ex_if_bad (ev_tooDeep st1 rfl (decide_eq_true (by omega)))
    (ex_raise rfl ((ev_self st1 rfl rfl).trans (spot_ok (w := w) (n := n + 1) mt st1 h)))))
/-- the first operand is read -/
theorem expr_start (mt : MT tbl) {σ σ₁ : Hp} {p t n : Nat} {r : Res (Fl × Loc)} (hd : d < 40) (st : PSt σ p t ts k d) (e₁ : callN tbl w n ".operand" [.obj p] (upd σ p t k (d + 1)) = .ok v σ₁)
    (hx : ex (callN tbl w n) Option.none w m_expr.body.next.next.next (rX p σ₁.length) (σ₁ ++ [.list [v]] ++ [.list []]) = r) : ex (callN tbl w n) Option.none w m_expr.body (Loc.empty.set "self" (.obj p)) σ = r := by
  have hd0 := st.deep
  have st0 := st.upd k (d' := d + 1) ⟨by omega, by omega⟩
  refine (ex_aug st rfl .add (okInt_ok (by omega))).trans ((ex_skip (ev_tooDeep st0 rfl (decide_eq_false (by omega)))).trans ((ex_asgT (l := [.obj σ₁.length, .obj (σ₁.length + 1)]) ?_ rfl).trans hx))
  refine ev_tup (ev_acons (ev_listE (ev_acons ((ev_self st0 rfl rfl).trans e₁) ev_anil) (by show 1 ≤ 100000; decide)) (ev_acons ((ev_listE ev_anil (Nat.zero_le _)).trans ?_) ev_anil)) (by show 2 ≤ 100000; decide)
  rw [List.length_append]; rfl
/-- the end of expr: the depth goes back, the one part is told -/
theorem expr_end (mt : MT tbl) {σ : Hp} {p t n q : Nat} (hd : 0 ≤ d ∧ d < 40) (st : PSt σ p t ts k (d + 1)) (hq : σ[q]? = some (.list [v])) (hp : q ≠ p) {ρ : Loc} (h1 : ρ "self" = some (.obj p)) (h2 : ρ "parts" = some (.obj q)) :
    ex (callN tbl w n) Option.none w m_expr.body.next.next.next.next.next ρ σ = .ok (.ret v, ρ) (upd σ p t k d) := by
  have e : augV .sub (.int (d + 1)) (.int 1) σ = .ok (.int d) σ := by
    show okInt (d + 1 - 1) σ = _
    rw [show d + 1 - 1 = d from by omega]
    exact okInt_ok (by omega)
  have h : (upd σ p t k d)[q]? = some (.list [v]) := (Keep.upd σ p t k d).at_ hq hp
  exact (ex_aug st h1 .sub e).trans (ex_ret ((ev_sub (ev_loc h2) rfl).trans ((subV_list (seqAt_of h)).trans (getL_nat (j := 0) rfl (by show 1 ≤ 1000000; decide)))))
theorem ev_waits {cf : CF} {ρ : Loc} {σ : Hp} {q : Nat} {l : List PV} (hρ : ρ "waiting" = some (.obj q)) (h : σ[q]? = some (.list l)) {b : Bool} (hb : decide ((0 : Int) < l.length) = b) : ev cf Option.none (.cmp .gt (.len (.loc "waiting")) (.int 0)) ρ σ = .ok (.bool b) σ :=
  (ev_cmp ((ev_len (ev_loc hρ)).trans (lenV_ok (seqAt_of h))) rfl).trans ((cmp_gt _ _).trans (by rw [hb]))

theorem expr_one (mt : MT tbl) (hw : 20 ≤ w) {kd' : String} {u' : PV} {s' : Int} (hd : d < 40) (hN : Does tbl w (N + 2) ".operand" [] ts k (d + 1) v k') (h' : ts[k']? = some (tok kd' u' s'))
    (hz : (kd' == "word" || kd' == "sign") = false ∨ ∃ x, u' = .str x ∧ getKey x (levelsTab.map fun p => (p.1, PV.int p.2)) = Option.none) : Does tbl w (N + 3) ".expr" [] ts k d v k' := by
  intro n hn σ p t st
  obtain ⟨n, rfl⟩ := Nat.exists_eq_add_of_le' hn
  obtain ⟨w, rfl⟩ := Nat.exists_eq_add_of_le' (Nat.le_trans (by decide : 1 ≤ 20) hw)
  have hd0 := st.deep
  obtain ⟨σ₁, e₁, st₁, kp₁⟩ := hN (n + N + 2) (by omega) _ p t (st.upd k (d' := d + 1) ⟨by omega, by omega⟩)
  have st₂ := (st₁.grow [.list [v]]).grow [.list []]
  have kp : Keep p σ (σ₁ ++ [.list [v]] ++ [.list []]) := ((Keep.upd ..).trans kp₁).trans ((Keep.grow p σ₁ _).trans (Keep.grow p _ _))
  have hwl : (σ₁ ++ [PO.list [v]] ++ [.list []])[σ₁.length + 1]? = some (.list []) := by
    rw [show σ₁.length + 1 = (σ₁ ++ [PO.list [v]]).length from (List.length_append (as := σ₁) (bs := [PO.list [v]])).symm]; exact getElem_snoc _ _
  have hpl : (σ₁ ++ [PO.list [v]] ++ [.list []])[σ₁.length]? = some (.list [v]) := (List.getElem?_append_left (by rw [List.length_append]; exact Nat.lt_succ_self _)).trans (getElem_snoc _ _)
  refine ⟨upd (σ₁ ++ [.list [v]] ++ [.list []]) p t k' d, ?_, st₂.upd k' st.deep, kp.trans (Keep.upd ..)⟩
  exact call_ok (n := n + N + 2) (mt ".expr" m_expr rfl) rfl (expr_start mt hd st e₁ ((ex_while (loopW_exit (testR_eq (t := false) ((ev_cmp ((ev_self st₂ rfl rfl).trans (level_zero (n := n + N) mt st₂ h' hz)) rfl).trans rfl)))).trans
    ((ex_while (loopW_exit (testR_eq (ev_waits rfl hwl rfl)))).trans (expr_end mt ⟨hd0.1, hd⟩ st₂ hpl (Nat.ne_of_gt st₁.lt) rfl rfl))))
end
end Mine
end
section
/-! The pure proof, part 3: segments, ends, choice. -/
set_option maxRecDepth 100000
set_option linter.unusedVariables false
set_option linter.unusedSimpArgs false
namespace Mine

noncomputable def At (ts : List PV) (k : Nat) (seg : List PV) : Prop := ∀ i x, seg[i]? = some x → ts[k + i]? = some x
theorem At.left {ts : List PV} {k : Nat} {a b : List PV} (h : At ts k (a ++ b)) : At ts k a := fun i x e => h i x (by
  rw [List.getElem?_append_left (List.getElem?_eq_some_iff.mp e).1]; exact e)
theorem At.right {ts : List PV} {k : Nat} {a b : List PV} (h : At ts k (a ++ b)) : At ts (k + a.length) b := fun i x e => by
  rw [Nat.add_assoc]
  refine h (a.length + i) x ?_
  rw [List.getElem?_append_right (by omega), show a.length + i - a.length = i from by omega]
  exact e
theorem At.head {ts : List PV} {k : Nat} {x : PV} {b : List PV} (h : At ts k (x :: b)) : ts[k]? = some x := h 0 x rfl
theorem At.tail {ts : List PV} {k : Nat} {x : PV} {b : List PV} (h : At ts k (x :: b)) : At ts (k + 1) b := fun i y e => by
  rw [Nat.add_assoc, Nat.add_comm 1 i]; exact h (i + 1) y e

noncomputable def lvNone (v : PV) : Bool := match v with
  | .str y => (getKey y (levelsTab.map fun p => (p.1, PV.int p.2))).isNone
  | _ => false
/-- what may stand behind an expression -/
noncomputable def stopB (kd : String) (u : PV) : Bool := tv u && !isn kd u "[" && !isn kd u "(" && (!(kd == "word" || kd == "sign") || lvNone u)
/-- what an expression may begin with, but a sign -/
noncomputable def begB (kd : String) (u : PV) : Bool := tv u && !isn kd u "-" && !isn kd u "+" && !isn kd u "not"
theorem stop_tv {kd : String} {u : PV} (h : stopB kd u = true) : tv u = true := by
  unfold stopB at h; simp only [Bool.and_eq_true] at h; exact h.1.1.1
theorem stop_sq {kd : String} {u : PV} (h : stopB kd u = true) : isn kd u "[" = false := by
  unfold stopB at h; simp only [Bool.and_eq_true, Bool.not_eq_true'] at h; exact h.1.1.2
theorem stop_rd {kd : String} {u : PV} (h : stopB kd u = true) : isn kd u "(" = false := by
  unfold stopB at h; simp only [Bool.and_eq_true, Bool.not_eq_true'] at h; exact h.1.2
theorem lvNone_str {u : PV} (h : lvNone u = true) : ∃ x, u = .str x ∧ getKey x (levelsTab.map fun p => (p.1, PV.int p.2)) = Option.none := by
  cases u <;> first | (cases h; done) | exact ⟨_, rfl, Option.isNone_iff_eq_none.mp h⟩
theorem stop_lv {kd : String} {u : PV} (h : stopB kd u = true) : (kd == "word" || kd == "sign") = false ∨ ∃ x, u = .str x ∧ getKey x (levelsTab.map fun p => (p.1, PV.int p.2)) = Option.none := by
  unfold stopB at h
  simp only [Bool.and_eq_true, Bool.or_eq_true, Bool.not_eq_true'] at h
  rcases h.2 with h | h
  · exact .inl h
  · exact .inr (lvNone_str h)
theorem beg_tv {kd : String} {u : PV} (h : begB kd u = true) : tv u = true := by
  unfold begB at h; simp only [Bool.and_eq_true] at h; exact h.1.1.1
theorem beg_all {kd : String} {u : PV} (h : begB kd u = true) : isn kd u "-" = false ∧ isn kd u "+" = false ∧ isn kd u "not" = false := by
  unfold begB at h; simp only [Bool.and_eq_true, Bool.not_eq_true'] at h; exact ⟨h.1.1.2, h.1.2, h.2⟩

section
variable {tbl : String → Option FnDef} {w : Nat}
/-- a run of tokens that reads as an expression -/
noncomputable def PartOk (tbl : String → Option FnDef) (w N need : Nat) (seg : List PV) (v : PV) : Prop :=
  ∀ ts k d kd u s, At ts k seg → ts[k + seg.length]? = some (tok kd u s) → stopB kd u = true → d + (need : Int) ≤ 40 → Does tbl w N ".expr" [] ts k d v (k + seg.length)
theorem PartOk.mono {N N' need need' : Nat} {seg : List PV} {v : PV} (h : PartOk tbl w N need seg v) (hN : N ≤ N') (hn : need ≤ need') : PartOk tbl w N' need' seg v :=
  fun ts k d kd u s a e b c => (h ts k d kd u s a e b (by omega)).mono hN

/-- an atom, nothing ahead of it and nothing behind it -/
noncomputable def AtomOk (tbl : String → Option FnDef) (w N need : Nat) (seg : List PV) (v : PV) : Prop :=
  ∀ ts k d kd u s, At ts k seg → ts[k + seg.length]? = some (tok kd u s) → tv u = true → isn kd u "(" = false → d + (need : Int) ≤ 40 → Does tbl w N ".atom" [] ts k d v (k + seg.length)
noncomputable def Begs (seg : List PV) : Prop := ∃ kd u s r, seg = tok kd u s :: r ∧ begB kd u = true

theorem part_of_atom (mt : MT tbl) (hw : 20 ≤ w) {N need : Nat} {seg : List PV} {v : PV} (hb : Begs seg) (h : AtomOk tbl w (N + 1) need seg v) : PartOk tbl w (N + 3) (need + 1) seg v := by
  intro ts k d kd u s a e b c
  obtain ⟨kd0, u0, s0, r, hs, hb0⟩ := hb
  obtain ⟨h1, h2, h3⟩ := beg_all hb0
  have h0 : ts[k]? = some (tok kd0 u0 s0) := by rw [hs] at a; exact a.head
  have ha := h ts k (d + 1) kd u s a e (stop_tv b) (stop_rd b) (by omega)
  exact expr_one mt hw (by omega) (operand_plain mt hw h0 (beg_tv hb0) h1 h2 h3 ha e (stop_tv b) (stop_sq b)) e (stop_lv b)

theorem atom_int' (mt : MT tbl) (s i : Int) : AtomOk tbl w 5 0 [tok "int" (.int i) s] (.tup [.str "int", .int s, .int i]) :=
  fun ts k d kd u s' a e _ _ _ => (atom_int mt a.head).mono (by omega)
theorem atom_bool' (mt : MT tbl) {y : String} (hy : y = "true" ∨ y = "false") (s : Int) : AtomOk tbl w 5 0 [tok "word" (.str y) s] (.tup [.str "bool", .int s, .bool (y == "true")]) :=
  fun ts k d kd u s' a e _ _ _ => (atom_bool mt hy a.head).mono (by omega)
theorem atom_name' (mt : MT tbl) (y : String) (s : Int) : AtomOk tbl w 5 0 [tok "name" (.str y) s] (.tup [.str "name", .int s, .str y]) :=
  fun ts k d kd u s' a e b c _ => (atom_name mt a.head e b c).mono (by omega)

/-! choice -/
structure Wy where
  c : List PV
  vc : PV
  st : Int
  t : List PV
  vt : PV
noncomputable abbrev wd (x : String) (s : Int) : PV := tok "word" (.str x) s
noncomputable def Wy.toks (y : Wy) : List PV := y.c ++ wd "then" y.st :: y.t
noncomputable def Wy.val (y : Wy) : PV := .tup [y.vc, y.vt]
structure Wy.Ok (tbl : String → Option FnDef) (w N need : Nat) (y : Wy) : Prop where
  c : PartOk tbl w N need y.c y.vc
  t : PartOk tbl w N need y.t y.vt
noncomputable def preT (P : List (Wy × Int)) : List PV := P.flatMap fun x => x.1.toks ++ [wd "elseif" x.2]

/-- where a choice stands amid its ways -/
structure Cho (σ0 σ : Hp) (ρ : Loc) (p t : Nat) (ts : List PV) (k : Nat) (d : Int) (sp : Int) (vs : List PV) : Prop where
  st : PSt σ p t ts k d
  kp : Keep p σ0 σ
  self : ρ "self" = some (.obj p)
  spot : ρ "spot" = some (.int sp)
  ways : ρ "ways" = some (.obj σ0.length)
  at_ : σ[σ0.length]? = some (.list vs)
  lp : p < σ0.length
  lt : t < σ0.length
  few : vs.length ≤ 1000

noncomputable abbrev choBody (cf : CF) (w : Nat) : SR := ex cf Option.none w
  (.asg "condition" (.meth (.loc "self") "expr" .anil)
      (.expr (.meth (.loc "self") "want" (.acons (.str "then") .anil))
      (.expr (.append (.loc "ways") (.tup (.acons (.loc "condition") (.acons (.meth (.loc "self") "expr" .anil) .anil))))
      (.ifS (.not (.meth (.loc "self") "took" (.acons (.str "elseif") .anil)))
        (.brk
        .nil)
        .nil
      .nil))))

theorem Cho.ne {σ0 σ : Hp} {ρ : Loc} {p t : Nat} {ts : List PV} {k : Nat} {d sp : Int} {vs : List PV} (c : Cho σ0 σ ρ p t ts k d sp vs) : σ0.length ≠ p := by have := c.lp; omega
theorem Cho.nt {σ0 σ : Hp} {ρ : Loc} {p t : Nat} {ts : List PV} {k : Nat} {d sp : Int} {vs : List PV} (c : Cho σ0 σ ρ p t ts k d sp vs) : σ0.length ≠ t := by have := c.lt; omega
/-- the parser goes on -/
theorem Cho.on {σ0 σ σ' : Hp} {ρ ρ' : Loc} {p t : Nat} {ts : List PV} {k k' : Nat} {d sp : Int} {vs : List PV} (c : Cho σ0 σ ρ p t ts k d sp vs) (st : PSt σ' p t ts k' d) (kp : Keep p σ σ') (h1 : ρ' "self" = ρ "self") (h2 : ρ' "spot" = ρ "spot") (h3 : ρ' "ways" = ρ "ways") : Cho σ0 σ' ρ' p t ts k' d sp vs :=
  ⟨st, c.kp.trans kp, h1.trans c.self, h2.trans c.spot, h3.trans c.ways, kp.at_ c.at_ c.ne, c.lp, c.lt, c.few⟩
theorem Cho.listAt {σ0 σ : Hp} {ρ : Loc} {p t : Nat} {ts : List PV} {k : Nat} {d sp : Int} {vs : List PV} (c : Cho σ0 σ ρ p t ts k d sp vs) : listAt σ σ0.length = some vs := by unfold Mine.listAt; rw [c.at_]
theorem Cho.push {σ0 σ : Hp} {ρ : Loc} {p t : Nat} {ts : List PV} {k : Nat} {d sp : Int} {vs : List PV} (c : Cho σ0 σ ρ p t ts k d sp vs) (v : PV) (h : vs.length ≤ 900) : Cho σ0 (σ.set σ0.length (.list (vs ++ [v]))) ρ p t ts k d sp (vs ++ [v]) :=
  ⟨c.st.set c.ne c.nt _, c.kp.setNew (Nat.le_refl _) _, c.self, c.spot, c.ways, by rw [List.getElem?_set_self (List.getElem?_eq_some_iff.mp c.at_).1], c.lp, c.lt, by rw [List.length_append]; simp; omega⟩

theorem cho_cond {σ0 σ : Hp} {ρ : Loc} {p t : Nat} {ts : List PV} {k : Nat} {d sp : Int} {vs : List PV} {N need n : Nat} {seg : List PV} {v : PV} (ok : PartOk tbl w N need seg v) (c : Cho σ0 σ ρ p t ts k d sp vs) (hn : N ≤ n) (hd : d + (need : Int) ≤ 40)
    {kd : String} {u : PV} {s : Int} (a : At ts k seg) (e : ts[k + seg.length]? = some (tok kd u s)) (hs : stopB kd u = true) :
    ∃ σ₁, Cho σ0 σ₁ (ρ.set "condition" v) p t ts (k + seg.length) d sp vs ∧ ∀ K, ex (callN tbl w n) Option.none w (.asg "condition" (.meth (.loc "self") "expr" .anil) K) ρ σ = ex (callN tbl w n) Option.none w K (ρ.set "condition" v) σ₁ := by
  obtain ⟨σ₁, e₁, st₁, kp₁⟩ := ok ts k d kd u s a e hs hd n hn σ p t c.st
  exact ⟨σ₁, c.on st₁ kp₁ rfl rfl rfl, fun K => ex_asg ((ev_self c.st c.self rfl).trans e₁)⟩
theorem cho_want {σ0 σ : Hp} {ρ : Loc} {p t : Nat} {ts : List PV} {k : Nat} {d sp : Int} {vs : List PV} (mt : MT tbl) {n : Nat} (c : Cho σ0 σ ρ p t ts k d sp vs) (hn : 3 ≤ n) {x : String} {s : Int} (e : ts[k]? = some (wd x s)) (hx : isn "word" (.str x) x = true) :
    ∃ σ₁, Cho σ0 σ₁ ρ p t ts (k + 1) d sp vs ∧ ∀ K, ex (callN tbl w n) Option.none w (.expr (.meth (.loc "self") "want" (.acons (.str x) .anil)) K) ρ σ = ex (callN tbl w n) Option.none w K ρ σ₁ := by
  obtain ⟨n, rfl⟩ := Nat.exists_eq_add_of_le' hn
  exact ⟨_, c.on (c.st.upd (k + 1) c.st.deep) (Keep.upd ..) rfl rfl rfl, fun K => ex_expr ((ev_self1 c.st c.self rfl).trans (want_ok mt c.st e rfl hx))⟩

theorem cho_way {σ0 σ : Hp} {ρ : Loc} {p t : Nat} {ts : List PV} {k : Nat} {d sp : Int} {vs : List PV} (mt : MT tbl) {N need n : Nat} {y : Wy} (ok : y.Ok tbl w N need) (c : Cho σ0 σ ρ p t ts k d sp vs) (hn : N ≤ n ∧ 4 ≤ n) (hd : d + (need : Int) ≤ 40) (hv : vs.length ≤ 900)
    {kd : String} {u : PV} {s : Int} (a : At ts k y.toks) (e : ts[k + y.toks.length]? = some (tok kd u s)) (hs : stopB kd u = true) :
    ∃ σ₁, Cho σ0 σ₁ (ρ.set "condition" y.vc) p t ts (k + y.toks.length) d sp (vs ++ [y.val]) ∧
      choBody (callN tbl w n) w ρ σ = if isn kd u "elseif" then .ok (.next, ρ.set "condition" y.vc) (upd σ₁ p t (k + y.toks.length + 1) d) else .ok (.brk, ρ.set "condition" y.vc) σ₁ := by
  have hlen : k + y.toks.length = k + y.c.length + 1 + y.t.length := by unfold Wy.toks; simp; omega
  have a1 : At ts k y.c := a.left
  have a2 : At ts (k + y.c.length) (wd "then" y.st :: y.t) := a.right
  obtain ⟨σ₁, c₁, e₁⟩ := cho_cond ok.c c (n := n) (by omega) hd a1 a2.head rfl
  obtain ⟨σ₂, c₂, e₂⟩ := cho_want mt c₁ (w := w) (n := n) (by omega) a2.head rfl
  have e' := e
  rw [hlen] at e'
  obtain ⟨σ₃, e₃, st₃, kp₃⟩ := ok.t ts (k + y.c.length + 1) d kd u s a2.tail e' hs hd n (by omega) σ₂ p t c₂.st
  have c₃ := c₂.on (ρ' := ρ.set "condition" y.vc) st₃ kp₃ rfl rfl rfl
  have c₄ := c₃.push y.val hv
  refine ⟨_, hlen ▸ c₄, ?_⟩
  rw [hlen]
  show ex (callN tbl w n) Option.none w _ ρ σ = _
  rw [e₁, e₂]
  rw [ex_expr (v := .none) (σ₁ := σ₃.set σ0.length (.list (vs ++ [y.val]))) (ev_append c₂.ways c₂.listAt (ev_tup (ev_acons (ev_loc rfl) (ev_acons ((ev_self c₂.st c₂.self rfl).trans e₃) ev_anil)) (by simp)) c₃.listAt (by omega))]
  obtain ⟨m, rfl⟩ : ∃ m, n = m + 2 := ⟨n - 2, by omega⟩
  have et := took_ok (w := w) (n := m) mt c₄.st e' (stop_tv hs) "elseif"
  have ev1 : ev (callN tbl w (m + 2)) Option.none (.meth (.loc "self") "took" (.acons (.str "elseif") .anil)) (ρ.set "condition" y.vc) (σ₃.set σ0.length (.list (vs ++ [y.val]))) = _ := (ev_self1 c₄.st c₄.self rfl).trans et
  cases hb : isn kd u "elseif" with
  | true =>
    rw [hb] at ev1
    rw [ex_if_false (σ₁ := upd (σ₃.set σ0.length (.list (vs ++ [y.val]))) p t (k + y.c.length + 1 + y.t.length + 1) d) (testR_eq (ev_not ev1))]
    rfl
  | false =>
    rw [hb] at ev1
    rw [ex_if_true (σ₁ := σ₃.set σ0.length (.list (vs ++ [y.val]))) (testR_eq (ev_not ev1))]
    rfl

theorem cho_turn {σ0 σ : Hp} {ρ : Loc} {p t : Nat} {ts : List PV} {k : Nat} {d sp : Int} {vs : List PV} (mt : MT tbl) {N need n : Nat} {y : Wy} (ok : y.Ok tbl w N need) (c : Cho σ0 σ ρ p t ts k d sp vs) (hn : N ≤ n ∧ 4 ≤ n) (hd : d + (need : Int) ≤ 40) (hv : vs.length ≤ 900) {se : Int} (a : At ts k (y.toks ++ [wd "elseif" se])) :
    ∃ σ₁ ρ₁, Cho σ0 σ₁ ρ₁ p t ts (k + (y.toks ++ [wd "elseif" se]).length) d sp (vs ++ [y.val]) ∧ choBody (callN tbl w n) w ρ σ = .ok (.next, ρ₁) σ₁ := by
  obtain ⟨σ₁, c₁, e₁⟩ := cho_way mt ok c hn hd hv a.left a.right.head rfl
  refine ⟨_, _, ?_, e₁⟩
  have := c₁.on (c₁.st.upd (k + y.toks.length + 1) c₁.st.deep) (Keep.upd ..) rfl rfl rfl
  rw [List.length_append, ← Nat.add_assoc]
  exact this

noncomputable abbrev yes : Loc → Hp → Res Bool := fun ρ σ => testR (.ok (.bool true) σ)
theorem preT_cons (x : Wy × Int) (P : List (Wy × Int)) : preT (x :: P) = (x.1.toks ++ [wd "elseif" x.2]) ++ preT P := by unfold preT; rw [List.flatMap_cons]
/-- the ways that an elseif follows -/
theorem cho_pre (mt : MT tbl) {N need n : Nat} (hn : N ≤ n ∧ 4 ≤ n) : ∀ (P : List (Wy × Int)) {m : Nat} {σ0 σ : Hp} {ρ : Loc} {p t : Nat} {ts : List PV} {k : Nat} {d sp : Int} {vs : List PV}, (∀ x ∈ P, Wy.Ok tbl w N need x.1) → Cho σ0 σ ρ p t ts k d sp vs → d + (need : Int) ≤ 40 → vs.length + P.length ≤ 900 → At ts k (preT P) →
    ∃ σ₁ ρ₁, Cho σ0 σ₁ ρ₁ p t ts (k + (preT P).length) d sp (vs ++ P.map (·.1.val)) ∧ loopW yes (choBody (callN tbl w n) w) (m + P.length) ρ σ = loopW yes (choBody (callN tbl w n) w) m ρ₁ σ₁
  | [], m, σ0, σ, ρ, p, t, ts, k, d, sp, vs, ok, c, hd, hv, a => ⟨σ, ρ, by simpa [preT] using c, rfl⟩
  | x :: P, m, σ0, σ, ρ, p, t, ts, k, d, sp, vs, ok, c, hd, hv, a => by
    rw [List.length_cons] at hv
    rw [preT_cons] at a
    obtain ⟨σ₁, ρ₁, c₁, e₁⟩ := cho_turn mt (ok x (List.mem_cons_self ..)) c hn hd (by omega) a.left
    obtain ⟨σ₂, ρ₂, c₂, e₂⟩ := cho_pre mt hn P (m := m) (fun y hy => ok y (List.mem_cons_of_mem _ hy)) c₁ hd (by rw [List.length_append]; simp; omega) a.right
    refine ⟨σ₂, ρ₂, ?_, ?_⟩
    · rw [preT_cons, List.length_append, ← Nat.add_assoc, List.map_cons]
      simpa using c₂
    · rw [List.length_cons, ← Nat.add_assoc, loopW_next rfl e₁, e₂]
end
end Mine
end
section
/-! The pure proof, part 4: choice as a whole. -/
set_option maxRecDepth 100000
set_option linter.unusedVariables false
set_option linter.unusedSimpArgs false
namespace Mine
section
variable {tbl : String → Option FnDef} {w : Nat}

/-- what stands behind the ways: nothing, or else and a value -/
noncomputable abbrev OthT := Option (Int × List PV × PV)
noncomputable def othT (o : OthT) : List PV := match o with
  | Option.none => []
  | some (s, seg, _) => wd "else" s :: seg
noncomputable def othV (sp : Int) (o : OthT) : PV := match o with
  | Option.none => .tup [.str "bool", .int sp, .bool true]
  | some (_, _, v) => v
noncomputable def OthOk (tbl : String → Option FnDef) (w N need : Nat) (o : OthT) : Prop := match o with
  | Option.none => True
  | some (_, seg, v) => PartOk tbl w N need seg v

theorem cho_start {p t : Nat} {ts : List PV} {k : Nat} {d sp : Int} {σ : Hp} (st : PSt σ p t ts k d) : Cho σ (σ ++ [.list []]) (((Loc.empty.set "spot" (.int sp)).set "self" (.obj p)).set "ways" (.obj σ.length)) p t ts k d sp [] :=
  ⟨st.grow _, Keep.grow p σ _, rfl, rfl, rfl, getElem_snoc σ _, st.lt, st.ltt, by simp⟩

/-- behind the ways -/
noncomputable abbrev choTail : PB := (.asg "other" (.ite (.meth (.loc "self") "took" (.acons (.str "else") .anil)) (.meth (.loc "self") "expr" .anil) (.tup (.acons (.str "bool") (.acons (.loc "spot") (.acons (.bool true) .anil)))))
    (.expr (.meth (.loc "self") "want" (.acons (.str "endif") .anil))
    (.ret (.tup (.acons (.str "if") (.acons (.loc "spot") (.acons (.tupleOf (.loc "ways")) (.acons (.loc "other") .anil)))))
    .nil)))

theorem cho_enter (mt : MT tbl) {p t : Nat} {ts : List PV} {k : Nat} {d sp : Int} {σ : Hp} (st : PSt σ p t ts k d) (n : Nat) :
    callN tbl w (n + 1) ".choice" [.obj p, .int sp] σ = (thenK (loopW yes (choBody (callN tbl w n) w) w (((Loc.empty.set "spot" (.int sp)).set "self" (.obj p)).set "ways" (.obj σ.length)) (σ ++ [.list []])) (ex (callN tbl w n) Option.none w choTail)).bind fun p σ => .ok (retOf p.1) σ := by
  exact (call_eq (mt ".choice" m_choice rfl) rfl).trans (congrArg (fun r : Res (Fl × Loc) => r.bind fun p σ => .ok (retOf p.1) σ) (ex_asg (ev_listE ev_anil (Nat.zero_le _))))


/-- what stands behind else is read; `x` is the token behind -/
theorem cho_other (mt : MT tbl) {N need n : Nat} (hn : N ≤ n ∧ 4 ≤ n) {σ0 σ : Hp} {ρ : Loc} {p t : Nat} {ts : List PV} {k : Nat} {d sp : Int} {vs : List PV} (c : Cho σ0 σ ρ p t ts k d sp vs) {o : OthT} (ok : OthOk tbl w N need o) (hd : d + (need : Int) ≤ 40)
    (a : At ts k (othT o)) {kd : String} {u : PV} {s : Int} (e : ts[k + (othT o).length]? = some (tok kd u s)) (hs : stopB kd u = true) (he : o = Option.none → isn kd u "else" = false) :
    ∃ σ₁, Cho σ0 σ₁ (ρ.set "other" (othV sp o)) p t ts (k + (othT o).length) d sp vs ∧ ex (callN tbl w n) Option.none w choTail ρ σ = ex (callN tbl w n) Option.none w
      (.expr (.meth (.loc "self") "want" (.acons (.str "endif") .anil)) (.ret (.tup (.acons (.str "if") (.acons (.loc "spot") (.acons (.tupleOf (.loc "ways")) (.acons (.loc "other") .anil))))) .nil)) (ρ.set "other" (othV sp o)) σ₁ := by
  obtain ⟨m, rfl⟩ : ∃ m, n = m + 2 := ⟨n - 2, by omega⟩
  match o, ok, a, e, he with
  | Option.none, ok, a, e, he =>
    have et := (ev_self1 (cf := callN tbl w (m + 2)) c.st c.self (f := "took") (x := "else") rfl).trans (took_ok (w := w) (n := m) mt c.st e (stop_tv hs) "else")
    rw [he rfl] at et
    exact ⟨σ, c.on c.st (Keep.refl ..) rfl rfl rfl, ex_asg ((ev_ite_f et).trans (ev_tup (ev_acons rfl (ev_acons (ev_loc c.spot) (ev_acons rfl ev_anil))) (by simp)))⟩
  | some (se, seg, v), ok, a, e, he =>
    have et := (ev_self1 (cf := callN tbl w (m + 2)) c.st c.self (f := "took") (x := "else") rfl).trans (took_ok (w := w) (n := m) mt c.st (At.head a) rfl "else")
    have c₁ := c.on (ρ' := ρ) (c.st.upd (k + 1) c.st.deep) (Keep.upd ..) rfl rfl rfl
    have a' : At ts (k + 1) seg := At.tail a
    have hl : k + (othT (some (se, seg, v))).length = k + 1 + seg.length := by simp [othT]; omega
    rw [hl] at e ⊢
    obtain ⟨σ₂, e₂, st₂, kp₂⟩ := ok ts (k + 1) d kd u s a' e hs hd (m + 2) (by omega) _ p t c₁.st
    exact ⟨σ₂, c₁.on st₂ kp₂ rfl rfl rfl, ex_asg ((ev_ite_t et).trans ((ev_self c₁.st c₁.self rfl).trans e₂))⟩

/-- the tokens of a choice behind its if -/
noncomputable def choT (P : List (Wy × Int)) (y : Wy) (o : OthT) (se : Int) : List PV := preT P ++ (y.toks ++ (othT o ++ [wd "endif" se]))
noncomputable def choV (sp : Int) (P : List (Wy × Int)) (y : Wy) (o : OthT) : PV := .tup [.str "if", .int sp, .tup (P.map (·.1.val) ++ [y.val]), othV sp o]

theorem oth_first (o : OthT) (x : PV) : ∃ r, othT o ++ [x] = (match o with | Option.none => x | some (s, _, _) => wd "else" s) :: r := by
  cases o with
  | none => exact ⟨[], rfl⟩
  | some q => exact ⟨q.2.1 ++ [x], rfl⟩

/-- all ways are read, and the loop ends -/
theorem cho_ways (mt : MT tbl) {N need n : Nat} (hw : 20 ≤ w) (hn : N ≤ n ∧ 4 ≤ n) {P : List (Wy × Int)} {y : Wy} {o : OthT} {σ : Hp} {p t : Nat} {ts : List PV} {k : Nat} {d sp : Int} (st : PSt σ p t ts k d) (okP : ∀ x ∈ P, Wy.Ok tbl w N need x.1) (ok : Wy.Ok tbl w N need y) (oko : OthOk tbl w N need o) (hP : P.length ≤ 10) (hd : d + (need : Int) ≤ 40)
    {kd : String} {u : PV} {s : Int} (hs : stopB kd u = true) (he : o = Option.none → isn kd u "else" = false ∧ isn kd u "elseif" = false) (a : At ts k (preT P ++ (y.toks ++ (othT o ++ [tok kd u s])))) :
    ∃ σ₁ ρ₁, Cho σ σ₁ ρ₁ p t ts (k + (preT P).length + y.toks.length + (othT o).length) d sp (P.map (·.1.val) ++ [y.val]) ∧ ρ₁ "other" = some (othV sp o) ∧
      callN tbl w (n + 1) ".choice" [.obj p, .int sp] σ = (ex (callN tbl w n) Option.none w
      (.expr (.meth (.loc "self") "want" (.acons (.str "endif") .anil)) (.ret (.tup (.acons (.str "if") (.acons (.loc "spot") (.acons (.tupleOf (.loc "ways")) (.acons (.loc "other") .anil))))) .nil)) ρ₁ σ₁).bind fun p σ => .ok (retOf p.1) σ := by
  obtain ⟨σ₁, ρ₁, c₁, e₁⟩ := cho_pre mt hn P (m := w - P.length) okP (cho_start (sp := sp) st) hd (by simp; omega) a.left
  have a2 := a.right.left
  have a3 := a.right.right
  have hx : ∃ kd1 u1 s1, ts[k + (preT P).length + y.toks.length]? = some (tok kd1 u1 s1) ∧ stopB kd1 u1 = true ∧ isn kd1 u1 "elseif" = false := by
    obtain ⟨r, hr⟩ := oth_first o (tok kd u s)
    rw [hr] at a3
    cases o with
    | none => exact ⟨kd, u, s, a3.head, hs, (he rfl).2⟩
    | some q => exact ⟨"word", .str "else", q.1, a3.head, rfl, rfl⟩
  obtain ⟨kd1, u1, s1, h1, h2, h3⟩ := hx
  obtain ⟨σ₂, c₂, e₂⟩ := cho_way mt ok c₁ hn hd (by simp; omega) a2 h1 h2
  rw [h3] at e₂
  obtain ⟨σ₃, c₃, e₃⟩ := cho_other mt hn c₂ oko hd a3.left a3.right.head hs (fun h => (he h).1)
  refine ⟨σ₃, (ρ₁.set "condition" y.vc).set "other" (othV sp o), ?_, rfl, ?_⟩
  · simpa using c₃
  · rw [cho_enter mt st n]
    obtain ⟨m, hm⟩ : ∃ m, w = m + 1 + P.length := ⟨w - 1 - P.length, by omega⟩
    have e₁' := e₁
    have hm' : w - P.length = m + 1 := by omega
    rw [hm', ← hm] at e₁'
    rw [e₁', thenK_next (loopW_brk rfl e₂), e₃]

theorem choice_ok (mt : MT tbl) {N need : Nat} (hN : 4 ≤ N) (hw : 20 ≤ w) {P : List (Wy × Int)} {y : Wy} {o : OthT} {se : Int} (okP : ∀ x ∈ P, Wy.Ok tbl w N need x.1) (ok : Wy.Ok tbl w N need y) (oko : OthOk tbl w N need o) (hP : P.length ≤ 10)
    {ts : List PV} {k : Nat} {d sp : Int} (hd : d + (need : Int) ≤ 40) (a : At ts k (choT P y o se)) : Does tbl w (N + 1) ".choice" [.int sp] ts k d (choV sp P y o) (k + (choT P y o se).length) := by
  intro n hn σ p t st
  obtain ⟨n, rfl⟩ : ∃ m, n = m + 1 := ⟨n - 1, by omega⟩
  obtain ⟨σ₁, ρ₁, c₁, h₁, e₁⟩ := cho_ways (sp := sp) mt hw (n := n) (by omega) st okP ok oko hP hd (kd := "word") (u := .str "endif") (s := se) rfl (fun _ => ⟨rfl, rfl⟩) a
  have ae : ts[k + (preT P).length + y.toks.length + (othT o).length]? = some (wd "endif" se) := a.right.right.right.head
  obtain ⟨σ₂, c₂, e₂⟩ := cho_want mt c₁ (w := w) (n := n) (by omega) ae rfl
  have hl : k + (choT P y o se).length = k + (preT P).length + y.toks.length + (othT o).length + 1 := by unfold choT; simp; omega
  refine ⟨σ₂, ?_, hl ▸ c₂.st, c₂.kp⟩
  rw [e₁, e₂, ex_ret (ev_tup (ev_acons rfl (ev_acons (ev_loc c₂.spot) (ev_acons (ev_tupleOf (ev_loc c₂.ways) c₂.listAt) (ev_acons (ev_loc h₁) ev_anil)))) (by simp))]
  rfl

/-- endif lacks -/
theorem choice_end (mt : MT tbl) {N need : Nat} (hN : 4 ≤ N) (hw : 20 ≤ w) {P : List (Wy × Int)} {y : Wy} {o : OthT} (okP : ∀ x ∈ P, Wy.Ok tbl w N need x.1) (ok : Wy.Ok tbl w N need y) (oko : OthOk tbl w N need o) (hP : P.length ≤ 10)
    {ts : List PV} {k : Nat} {d sp : Int} (hd : d + (need : Int) ≤ 40) {kd : String} {u : PV} {s : Int} (hs : stopB kd u = true) (h1 : isn kd u "endif" = false) (h2 : isn kd u "else" = false) (h3 : isn kd u "elseif" = false)
    (a : At ts k (preT P ++ (y.toks ++ (othT o ++ [tok kd u s])))) : Fails tbl w (N + 1) ".choice" [.int sp] ts k d ("endif" ++ " is wanted") s := by
  intro n hn σ p t st
  obtain ⟨n, rfl⟩ : ∃ m, n = m + 1 := ⟨n - 1, by omega⟩
  obtain ⟨σ₁, ρ₁, c₁, h₁, e₁⟩ := cho_ways (sp := sp) mt hw (n := n) (by omega) st okP ok oko hP hd hs (fun _ => ⟨h2, h3⟩) a
  have ae : ts[k + (preT P).length + y.toks.length + (othT o).length]? = some (tok kd u s) := a.right.right.right.head
  obtain ⟨m, rfl⟩ : ∃ m, n = m + 3 := ⟨n - 3, by omega⟩
  refine ⟨σ₁, ?_, c₁.kp⟩
  rw [e₁, ex_expr_err ((ev_self1 c₁.st c₁.self rfl).trans (want_err mt c₁.st ae (stop_tv hs) h1 (by decide)))]
  rfl

/-- a then lacks -/
theorem choice_then (mt : MT tbl) {N need : Nat} (hN : 4 ≤ N) (hw : 20 ≤ w) {P : List (Wy × Int)} {c : List PV} {vc : PV} (okP : ∀ x ∈ P, Wy.Ok tbl w N need x.1) (ok : PartOk tbl w N need c vc) (hP : P.length ≤ 10)
    {ts : List PV} {k : Nat} {d sp : Int} (hd : d + (need : Int) ≤ 40) {kd : String} {u : PV} {s : Int} (hs : stopB kd u = true) (h1 : isn kd u "then" = false)
    (a : At ts k (preT P ++ (c ++ [tok kd u s]))) : Fails tbl w (N + 1) ".choice" [.int sp] ts k d ("then" ++ " is wanted") s := by
  intro n hn σ p t st
  obtain ⟨n, rfl⟩ : ∃ m, n = m + 1 := ⟨n - 1, by omega⟩
  obtain ⟨σ₁, ρ₁, c₁, e₁⟩ := cho_pre mt (n := n) (by omega) P (m := w - P.length) okP (cho_start (sp := sp) st) hd (by simp; omega) a.left
  have ae := a.right.right.head
  obtain ⟨σ₂, c₂, e₂⟩ := cho_cond ok c₁ (n := n) (by omega) hd a.right.left ae hs
  obtain ⟨m, rfl⟩ : ∃ m, n = m + 3 := ⟨n - 3, by omega⟩
  refine ⟨σ₂, ?_, c₂.kp⟩
  rw [cho_enter mt st]
  obtain ⟨l, hl⟩ : ∃ l, w = l + 1 + P.length := ⟨w - 1 - P.length, by omega⟩
  have e₁' := e₁
  have hl' : w - P.length = l + 1 := by omega
  rw [hl', ← hl] at e₁'
  have eb : choBody (callN tbl w (m + 3)) w ρ₁ σ₁ = .err ("then" ++ " is wanted") s σ₂ := by
    show ex _ _ _ _ _ _ = _
    rw [e₂, ex_expr_err ((ev_self1 c₂.st c₂.self rfl).trans (want_err mt c₂.st ae (stop_tv hs) h1 (by decide)))]
  rw [e₁', thenK_err (loopW_errB rfl eb)]
  rfl

/-- the first condition, or the first value, is refused -/
theorem choice_bad1 (mt : MT tbl) {N : Nat} (hN : 4 ≤ N) (hw : 20 ≤ w) {ts : List PV} {k : Nat} {d sp : Int} {x : String} {s : Int} (h : Fails tbl w N ".expr" [] ts k d x s) : Fails tbl w (N + 1) ".choice" [.int sp] ts k d x s := by
  intro n hn σ p t st
  obtain ⟨n, rfl⟩ : ∃ m, n = m + 1 := ⟨n - 1, by omega⟩
  have c := cho_start (sp := sp) st
  obtain ⟨σ₁, e₁, kp₁⟩ := h n (by omega) _ p t c.st
  refine ⟨σ₁, ?_, c.kp.trans kp₁⟩
  rw [cho_enter mt st]
  obtain ⟨l, hl⟩ : ∃ l, w = l + 1 := ⟨w - 1, by omega⟩
  have eb : choBody (callN tbl w n) w (((Loc.empty.set "spot" (.int sp)).set "self" (.obj p)).set "ways" (.obj σ.length)) (σ ++ [.list []]) = .err x s σ₁ := ex_asg_err ((ev_self c.st c.self rfl).trans e₁)
  have : loopW yes (choBody (callN tbl w n) w) w (((Loc.empty.set "spot" (.int sp)).set "self" (.obj p)).set "ways" (.obj σ.length)) (σ ++ [.list []]) = .err x s σ₁ := by
    rw [show loopW yes (choBody (callN tbl w n) w) w = loopW yes (choBody (callN tbl w n) w) (l + 1) from by rw [← hl]]
    exact loopW_errB rfl eb
  rw [this]
  rfl
theorem choice_bad2 (mt : MT tbl) {N need : Nat} (hN : 4 ≤ N) (hw : 20 ≤ w) {ts : List PV} {k : Nat} {d sp : Int} {x : String} {s st' : Int} {c : List PV} {vc : PV} (ok : PartOk tbl w N need c vc) (hd : d + (need : Int) ≤ 40) (a : At ts k (c ++ [wd "then" st']))
    (h : Fails tbl w N ".expr" [] ts (k + c.length + 1) d x s) : Fails tbl w (N + 1) ".choice" [.int sp] ts k d x s := by
  intro n hn σ p t st
  obtain ⟨n, rfl⟩ : ∃ m, n = m + 1 := ⟨n - 1, by omega⟩
  have c0 := cho_start (sp := sp) st
  obtain ⟨σ₁, c₁, e₁⟩ := cho_cond ok c0 (n := n) (by omega) hd a.left a.right.head rfl
  obtain ⟨σ₂, c₂, e₂⟩ := cho_want mt c₁ (w := w) (n := n) (by omega) a.right.head rfl
  obtain ⟨σ₃, e₃, kp₃⟩ := h n (by omega) _ p t c₂.st
  refine ⟨σ₃, ?_, c₂.kp.trans kp₃⟩
  rw [cho_enter mt st]
  obtain ⟨l, hl⟩ : ∃ l, w = l + 1 := ⟨w - 1, by omega⟩
  have eb : choBody (callN tbl w n) w (((Loc.empty.set "spot" (.int sp)).set "self" (.obj p)).set "ways" (.obj σ.length)) (σ ++ [.list []]) = .err x s σ₃ := by
    show ex _ _ _ _ _ _ = _
    rw [e₁, e₂, ex_expr_err (ev_append_err c₂.ways c₂.listAt (ev_tup_err (ev_acons_err2 (ev_loc rfl) (ev_acons_err ((ev_self c₂.st c₂.self rfl).trans e₃)))))]
  have : loopW yes (choBody (callN tbl w n) w) w (((Loc.empty.set "spot" (.int sp)).set "self" (.obj p)).set "ways" (.obj σ.length)) (σ ++ [.list []]) = .err x s σ₃ := by
    rw [show loopW yes (choBody (callN tbl w n) w) w = loopW yes (choBody (callN tbl w n) w) (l + 1) from by rw [← hl]]
    exact loopW_errB rfl eb
  rw [this]
  rfl
end
end Mine
end
section
/-! The pure proof, part 5: faults that go up; objects made; the tryRet. -/
set_option maxRecDepth 100000
set_option linter.unusedVariables false
set_option linter.unusedSimpArgs false
namespace Mine
section
variable {tbl : String → Option FnDef} {w : Nat}

theorem operand_bad (mt : MT tbl) (hw : 20 ≤ w) {N : Nat} {kd : String} {u : PV} {s s' : Int} {x : String} {ts : List PV} {k : Nat} {d : Int} (h : ts[k]? = some (tok kd u s)) (hb : begB kd u = true)
    (hN : Fails tbl w (N + 1) ".atom" [] ts k d x s') : Fails tbl w (N + 2) ".operand" [] ts k d x s' := by
  intro n hn σ p t st
  obtain ⟨n, rfl⟩ := Nat.exists_eq_add_of_le' hn
  obtain ⟨w, rfl⟩ := Nat.exists_eq_add_of_le' (Nat.le_trans (by decide : 1 ≤ 20) hw)
  obtain ⟨h1, h2, h3⟩ := beg_all hb
  obtain ⟨σ', e', kp'⟩ := hN (n + N + 1) (by omega) _ p t (st.grow [.list []])
  exact ⟨σ', call_err (mt ".operand" m_operand rfl) rfl (operand_start (n := n + N) mt st h (beg_tv hb) h1 h2 h3 (ex_asg_err ((ev_self (st.grow _) rfl rfl).trans e'))), (Keep.grow p σ _).trans kp'⟩
theorem expr_bad (mt : MT tbl) {N : Nat} {s' : Int} {x : String} {ts : List PV} {k : Nat} {d : Int} (hd : d < 40) (hN : Fails tbl w (N + 2) ".operand" [] ts k (d + 1) x s') : Fails tbl w (N + 3) ".expr" [] ts k d x s' := by
  intro n hn σ p t st
  obtain ⟨n, rfl⟩ := Nat.exists_eq_add_of_le' hn
  have hd0 := st.deep
  have st0 := st.upd k (d' := d + 1) ⟨by omega, by omega⟩
  obtain ⟨σ₁, e₁, kp₁⟩ := hN (n + N + 2) (by omega) _ p t st0
  exact ⟨σ₁, call_err (n := n + N + 2) (mt ".expr" m_expr rfl) rfl ((ex_aug st rfl .add (okInt_ok (by omega))).trans ((ex_skip (ev_tooDeep st0 rfl (decide_eq_false (by omega)))).trans
    (ex_asgT_err (ev_tup_err (ev_acons_err (ev_list_err (ev_acons_err ((ev_self st0 rfl rfl).trans e₁)))))))), (Keep.upd ..).trans kp₁⟩
/-- a choice amid an expression, refused -/
theorem if_bad (mt : MT tbl) (hw : 20 ≤ w) {N : Nat} {s s' : Int} {x : String} {ts : List PV} {k : Nat} {d : Int} (h : ts[k]? = some (wd "if" s)) (hd : d < 40) (hN : Fails tbl w (N + 2) ".choice" [.int s] ts (k + 1) (d + 1) x s') : Fails tbl w (N + 5) ".expr" [] ts k d x s' :=
  expr_bad mt hd (operand_bad mt hw h rfl (atom_if_err mt h hN))

/-- a choice as a value -/
theorem part_if (mt : MT tbl) (hw : 20 ≤ w) {N need : Nat} (hN : 4 ≤ N) {P : List (Wy × Int)} {y : Wy} {o : OthT} {sp se : Int} (okP : ∀ x ∈ P, Wy.Ok tbl w N need x.1) (ok : Wy.Ok tbl w N need y) (oko : OthOk tbl w N need o) (hP : P.length ≤ 10) :
    PartOk tbl w (N + 4) (need + 1) (wd "if" sp :: choT P y o se) (choV sp P y o) := by
  obtain ⟨N, rfl⟩ : ∃ M, N = M + 1 := ⟨N - 1, by omega⟩
  refine part_of_atom (N := N + 2) mt hw ⟨"word", .str "if", sp, _, rfl, rfl⟩ ?_
  intro ts k d kd u s a e h1 h2 hd
  have h := atom_if mt a.head (choice_ok (d := d) (sp := sp) mt hN hw okP ok oko hP hd a.tail)
  have hl : k + (wd "if" sp :: choT P y o se).length = k + 1 + (choT P y o se).length := by rw [List.length_cons]; omega
  rw [hl]
  exact h.mono (by omega)

/-! a parser made -/
theorem newV_ok {cf : CF} {v : PV} {σ σ' : Hp} (h : cf ".__init__" [.obj σ.length, v] (σ ++ [.inst []]) = .ok .none σ') : newV cf v σ = .ok (.obj σ.length) σ' := bindE h
theorem set_snoc (σ : Hp) (o o' : PO) : (σ ++ [o]).set σ.length o' = σ ++ [o'] := by
  rw [List.set_append_right _ _ (Nat.le_refl _), Nat.sub_self]; rfl
theorem new_parser (mt : MT tbl) {n : Nat} {σ : Hp} {t : Nat} {ts : List PV} (h : σ[t]? = some (.list ts)) (hs : ts.length ≤ 1000000) : newV (callN tbl w (n + 1)) (.obj t) σ = .ok (.obj σ.length) (σ ++ [pobj t 0 0]) ∧ PSt (σ ++ [pobj t 0 0]) σ.length t ts 0 0 := by
  have ht : t < σ.length := (List.getElem?_eq_some_iff.mp h).1
  refine ⟨newV_ok ?_, getElem_snoc σ _, (List.getElem?_append_left ht).trans h, hs, by decide⟩
  have s1 : ∀ {x : String} {v : PV} {l : List (String × PV)}, l.length ≤ 100 → setAttrV (.obj σ.length) x v (σ ++ [.inst l]) = .ok () (σ ++ [.inst (putKey x v l)]) := fun hl => (setAttrV_ok (instAt_of (getElem_snoc σ _)) hl).trans (by rw [set_snoc])
  exact call_none (mt ".__init__" m_init rfl) rfl ((ex_asgAttr (ev_loc rfl) (ev_loc rfl) (s1 (by decide))).trans ((ex_asgAttr rfl (ev_loc rfl) (s1 (by show 1 ≤ 100; decide))).trans ((ex_asgAttr rfl (ev_loc rfl) (s1 (by show 2 ≤ 100; decide))).trans rfl)))
end
end Mine
end
section
/-! The pure proof, part 6: an operation of two. -/
set_option maxRecDepth 100000
set_option linter.unusedVariables false
set_option linter.unusedSimpArgs false
namespace Mine
noncomputable def two (x : String) (s : Int) (a b : PV) : PV := if x = ".." then .tup [.str "range", .int s, a, b] else .tup [.str "bin", .int s, .str x, a, b]
section
variable {tbl : String → Option FnDef} {w : Nat}

theorem put_two (mt : MT tbl) {n : Nat} {σ : Hp} {q : Nat} {a b o : PV} {lv sp : Int} {x : String} (h : σ[q]? = some (.list [a, b])) :
    callN tbl w (n + 1) ".put_together" [o, .obj q, .tup [.int lv, .int sp, .str x]] σ = .ok .none (σ.set q (.list [two x sp a b])) := by
  have hlt : q < σ.length := (List.getElem?_eq_some_iff.mp h).1
  have l1 : (σ.set q (.list [a]))[q]? = some (.list ([] ++ [a])) := List.getElem?_set_self hlt
  have e : (σ.set q (.list [a])).set q (.list []) = σ.set q (.list []) := List.set_set ..
  have l2 : listAt (σ.set q (.list [])) q = some [] := listAt_of (List.getElem?_set_self hlt)
  have e2 : ∀ y, (σ.set q (.list [])).set q (.list ([] ++ [y])) = σ.set q (.list [y]) := fun y => List.set_set ..
  have eo : ∀ (j : Int) (z : PV) (ρ : Loc) (σ : Hp), ρ "one" = some (.tup [.int lv, .int sp, .str x]) → subV (.tup [.int lv, .int sp, .str x]) (.int j) σ = .ok z σ → ev (callN tbl w n) Option.none (.sub (.loc "one") (.int j)) ρ σ = .ok z σ := fun j z ρ σ hρ h => (ev_sub (ev_loc hρ) rfl).trans h
  have h0 : ex (callN tbl w n) Option.none w m_put_together.body (((Loc.empty.set "one" (.tup [.int lv, .int sp, .str x])).set "parts" (.obj q)).set "self" o) σ = ex (callN tbl w n) Option.none w m_put_together.body.next ((((Loc.empty.set "one" (.tup [.int lv, .int sp, .str x])).set "parts" (.obj q)).set "self" o).setAll ["right", "left"] [b, a]) (σ.set q (.list [])) :=
    ex_asgT (l := [b, a]) (σ₁ := σ.set q (.list [])) (ev_tup (ev_acons (ev_popL (l := [a]) rfl h) (ev_acons ((ev_popL (l := []) rfl l1).trans (by rw [e])) ev_anil)) (by show 2 ≤ 100000; decide)) rfl
  have hc : ∀ {ρ : Loc} {c : Bool}, ρ "one" = some (.tup [.int lv, .int sp, .str x]) → (x == "..") = c → ev (callN tbl w n) Option.none (.cmp .eq (.sub (.loc "one") (.int 2)) (.str "..")) ρ (σ.set q (.list [])) = .ok (.bool c) (σ.set q (.list [])) := fun hρ hc => (ev_cmp (eo 2 _ _ _ hρ sub_t2) rfl).trans ((cmp_eq (eqV_str ..)).trans (by rw [hc]))
  by_cases hx : x = ".."
  · rw [two, if_pos hx, ← e2]
    exact call_none (mt ".put_together" m_put_together rfl) rfl (h0.trans ((ex_if_true (testR_eq (hc rfl (beq_iff_eq.mpr hx)))).trans ((thenK_next (ex_expr (ev_append rfl l2 (ev_tup (ev_acons rfl (ev_acons (eo 1 _ _ _ rfl sub_t1) (ev_acons (ev_loc rfl) (ev_acons (ev_loc rfl) ev_anil)))) (by show 4 ≤ 100000; decide)) l2 (Nat.zero_le _)))).trans rfl)))
  · rw [two, if_neg hx, ← e2]
    exact call_none (mt ".put_together" m_put_together rfl) rfl (h0.trans ((ex_if_else (testR_eq (hc rfl (beq_eq_false_iff_ne.mpr hx)))).trans ((thenK_next (ex_expr (ev_append rfl l2 (ev_tup (ev_acons rfl (ev_acons (eo 1 _ _ _ rfl sub_t1) (ev_acons (eo 2 _ _ _ rfl sub_t2) (ev_acons (ev_loc rfl) (ev_acons (ev_loc rfl) ev_anil))))) (by show 5 ≤ 100000; decide)) l2 (Nat.zero_le _)))).trans rfl)))

theorem expr_two (mt : MT tbl) (hw : 20 ≤ w) {N k1 k2 k : Nat} {ts : List PV} {d : Int} {va vb : PV} {kd kd' : String} {x : String} {i s s' : Int} {u' : PV} (hd : d < 40)
    (hA : Does tbl w (N + 2) ".operand" [] ts k (d + 1) va k1) (h1 : ts[k1]? = some (tok kd (.str x) s)) (hk : (kd == "word" || kd == "sign") = true) (hi : getKey x (levelsTab.map fun p => (p.1, PV.int p.2)) = some (.int i)) (hi0 : 0 < i)
    (hB : Does tbl w (N + 2) ".operand" [] ts (k1 + 1) (d + 1) vb k2) (h2 : ts[k2]? = some (tok kd' u' s'))
    (hz : (kd' == "word" || kd' == "sign") = false ∨ ∃ x, u' = .str x ∧ getKey x (levelsTab.map fun p => (p.1, PV.int p.2)) = Option.none) : Does tbl w (N + 3) ".expr" [] ts k d (two x s va vb) k2 := by
  intro n hn σ p t st
  obtain ⟨n, rfl⟩ := Nat.exists_eq_add_of_le' hn
  obtain ⟨w, rfl⟩ := Nat.exists_eq_add_of_le' hw
  have hd0 := st.deep
  have st0 := st.upd k (d' := d + 1) ⟨by omega, by omega⟩
  obtain ⟨σ₁, e₁, st₁, kp₁⟩ := hA (n + N + 2) (by omega) _ p t st0
  have st₂ := (st₁.grow [.list [va]]).grow [.list []]
  have kp : Keep p σ (σ₁ ++ [.list [va]] ++ [.list []]) := ((Keep.upd ..).trans kp₁).trans ((Keep.grow p σ₁ _).trans (Keep.grow p _ _))
  have wl : (σ₁ ++ [.list [va]] ++ [.list []])[σ₁.length + 1]? = some (.list []) := by
    rw [show σ₁.length + 1 = (σ₁ ++ [PO.list [va]]).length from by simp, getElem_snoc]
  have pl : (σ₁ ++ [.list [va]] ++ [.list []])[σ₁.length]? = some (.list [va]) := by
    rw [List.getElem?_append_left (by simp), getElem_snoc]
  have hge : σ.length ≤ σ₁.length := ((Keep.upd σ p t k (d + 1)).trans kp₁).len
  have hpt : p < σ₁.length ∧ t < σ₁.length := ⟨st₁.lt, st₁.ltt⟩
  have lv := level_op (w := w + 20) (n := n + N) mt st₂ h1 hk hi
  have sp : callN tbl (w + 20) (n + N + 2) ".spot" [.obj p] _ = _ := spot_ok (n := n + N + 1) mt st₂ h1
  have tk : callN tbl (w + 20) (n + N + 2) ".take" [.obj p] _ = _ := take_ok (n := n + N + 1) mt st₂ h1
  have h0 : ∀ {r}, ex (callN tbl (w + 20) (n + N + 2)) Option.none (w + 20) m_expr.body.next.next.next (rX p σ₁.length) (σ₁ ++ [.list [va]] ++ [.list []]) = r → ex (callN tbl (w + 20) (n + N + 2)) Option.none (w + 20) m_expr.body (Loc.empty.set "self" (.obj p)) σ = r := fun h => expr_start mt hd st e₁ h
  clear e₁
  generalize σ₁ ++ [.list [va]] ++ [.list []] = σ₂ at *
  -- one turn
  have st₃ := st₂.upd (k1 + 1) st₂.deep
  have wl3 : (upd σ₂ p t (k1 + 1) (d + 1))[σ₁.length + 1]? = some (.list []) := (Keep.upd σ₂ p t (k1 + 1) (d + 1)).at_ wl (by omega)
  have pl3 : (upd σ₂ p t (k1 + 1) (d + 1))[σ₁.length]? = some (.list [va]) := (Keep.upd σ₂ p t (k1 + 1) (d + 1)).at_ pl (by omega)
  have kp3 := kp.trans (Keep.upd σ₂ p t (k1 + 1) (d + 1))
  generalize hσ3 : upd σ₂ p t (k1 + 1) (d + 1) = σ₃ at *
  have st₄ := st₃.set (i := σ₁.length + 1) (by omega) (by omega) (.list [.tup [.int i, .int s, .str x]])
  have wl4 : (σ₃.set (σ₁.length + 1) (.list [.tup [.int i, .int s, .str x]]))[σ₁.length + 1]? = some (.list [.tup [.int i, .int s, .str x]]) := by rw [List.getElem?_set_self (List.getElem?_eq_some_iff.mp wl3).1]
  have pl4 : (σ₃.set (σ₁.length + 1) (.list [.tup [.int i, .int s, .str x]]))[σ₁.length]? = some (.list [va]) := by rw [List.getElem?_set_ne (by omega)]; exact pl3
  have kp4 := kp3.setNew (i := σ₁.length + 1) (by omega) (.list [.tup [.int i, .int s, .str x]])
  generalize hσ4 : σ₃.set (σ₁.length + 1) (.list [.tup [.int i, .int s, .str x]]) = σ₄ at *
  obtain ⟨σ₅, e₅, st₅, kp₅⟩ := hB (n + N + 2) (by omega) _ p t st₄
  have wl5 := kp₅.at_ wl4 (by omega)
  have pl5 := kp₅.at_ pl4 (by omega)
  have st₆ := st₅.set (i := σ₁.length) (by omega) (by omega) (.list [va, vb])
  have wl6 : (σ₅.set σ₁.length (.list [va, vb]))[σ₁.length + 1]? = some (.list ([] ++ [.tup [.int i, .int s, .str x]])) := by rw [List.getElem?_set_ne (by omega)]; exact wl5
  have pl6 : (σ₅.set σ₁.length (.list [va, vb]))[σ₁.length]? = some (.list [va, vb]) := by rw [List.getElem?_set_self (List.getElem?_eq_some_iff.mp pl5).1]
  have kp6 := (kp4.trans kp₅).setNew (i := σ₁.length) (by omega) (.list [va, vb])
  have el : ∀ (ρ : Loc), ρ "self" = some (.obj p) → ev (callN tbl (w + 20) (n + N + 2)) Option.none (.meth (.loc "self") "level" .anil) ρ σ₂ = .ok (.int i) σ₂ := fun ρ hρ => (ev_self st₂ hρ rfl).trans lv
  have turn : ex (callN tbl (w + 20) (n + N + 2)) Option.none (w + 20) m_expr.body.next.next.next.inner (rX p σ₁.length) σ₂ = .ok (.next, (rX p σ₁.length).setAll ["level", "spot"] [.int i, .int s]) (σ₅.set σ₁.length (.list [va, vb])) := by
    refine (ex_asgT (ev_tup (ev_acons (el _ rfl) (ev_acons ((ev_self (f := "spot") st₂ rfl rfl).trans sp) ev_anil)) (by show 2 ≤ 100000; decide)) rfl).trans ((ex_while (loopW_exit (n := w + 19) (testR_eq (ev_and_f (ev_waits rfl wl rfl))))).trans ?_)
    refine (ex_expr (ev_append rfl (listAt_of wl) (ev_tup (ev_acons (ev_loc rfl) (ev_acons (ev_loc rfl) (ev_acons ((ev_self (f := "take") st₂ rfl rfl).trans tk) ev_anil))) (by show 3 ≤ 100000; decide)) (listAt_of wl3) (Nat.zero_le _))).trans ?_
    rw [List.nil_append, hσ4]
    exact (ex_expr (ev_append rfl (listAt_of pl4) ((ev_self (f := "operand") st₄ rfl rfl).trans e₅) (listAt_of pl5) (by show 1 ≤ 100000; decide))).trans rfl
  have hlev : ∀ {v : Int} {σ : Hp} {ρ : Loc} {b : Bool}, ev (callN tbl (w + 20) (n + N + 2)) Option.none (.meth (.loc "self") "level" .anil) ρ σ = .ok (.int v) σ → decide (0 < v) = b → testR (ev (callN tbl (w + 20) (n + N + 2)) Option.none (.cmp .gt (.meth (.loc "self") "level" .anil) (.int 0)) ρ σ) = .ok b σ := fun h hb => testR_eq ((ev_cmp h rfl).trans ((cmp_gt _ _).trans (by rw [hb])))
  have w1 : ex (callN tbl (w + 20) (n + N + 2)) Option.none (w + 20) m_expr.body.next.next.next (rX p σ₁.length) σ₂ = ex (callN tbl (w + 20) (n + N + 2)) Option.none (w + 20) m_expr.body.next.next.next.next ((rX p σ₁.length).setAll ["level", "spot"] [.int i, .int s]) (σ₅.set σ₁.length (.list [va, vb])) :=
    ex_while ((loopW_next (n := w + 19) (hlev (el _ rfl) (decide_eq_true hi0)) turn).trans (loopW_exit (n := w + 18) (hlev ((ev_self st₆ rfl rfl).trans (level_zero (n := n + N) mt st₆ h2 hz)) rfl)))
  replace h0 := fun {r} h => h0 (w1.trans (h : _ = r))
  clear w1 turn
  generalize σ₅.set σ₁.length (.list [va, vb]) = σ₆ at *
  have wl7 : (σ₆.set (σ₁.length + 1) (.list []))[σ₁.length + 1]? = some (.list []) := List.getElem?_set_self (List.getElem?_eq_some_iff.mp wl6).1
  have pl7 : (σ₆.set (σ₁.length + 1) (.list []))[σ₁.length]? = some (.list [va, vb]) := (List.getElem?_set_ne (Nat.succ_ne_self _)).trans pl6
  have st₇ := st₆.set (i := σ₁.length + 1) (by omega) (by omega) (.list [])
  have kp7 := kp6.setNew (i := σ₁.length + 1) (by omega) (.list [])
  have ep : ∀ (ρ : Loc), ρ "waiting" = some (.obj (σ₁.length + 1)) → ev (callN tbl (w + 20) (n + N + 2)) Option.none (.pop (.loc "waiting")) ρ σ₆ = .ok (.tup [.int i, .int s, .str x]) (σ₆.set (σ₁.length + 1) (.list [])) := fun ρ hρ => ev_popL hρ wl6
  generalize σ₆.set (σ₁.length + 1) (.list []) = σ₇ at *
  have put : callN tbl (w + 20) (n + N + 2) ".put_together" _ _ = _ := put_two (n := n + N + 1) (o := .obj p) (lv := i) (sp := s) (x := x) mt pl7
  have wl8 : (σ₇.set σ₁.length (.list [two x s va vb]))[σ₁.length + 1]? = some (.list []) := (List.getElem?_set_ne (Nat.succ_ne_self _).symm).trans wl7
  have pl8 : (σ₇.set σ₁.length (.list [two x s va vb]))[σ₁.length]? = some (.list [two x s va vb]) := List.getElem?_set_self (List.getElem?_eq_some_iff.mp pl7).1
  have st₈ := st₇.set (i := σ₁.length) (by omega) (by omega) (.list [two x s va vb])
  have kp8 := kp7.setNew (i := σ₁.length) (by omega) (.list [two x s va vb])
  have w2 : ex (callN tbl (w + 20) (n + N + 2)) Option.none (w + 20) m_expr.body.next.next.next.next ((rX p σ₁.length).setAll ["level", "spot"] [.int i, .int s]) σ₆ = ex (callN tbl (w + 20) (n + N + 2)) Option.none (w + 20) m_expr.body.next.next.next.next.next ((rX p σ₁.length).setAll ["level", "spot"] [.int i, .int s]) (σ₇.set σ₁.length (.list [two x s va vb])) :=
    ex_while ((loopW_next (n := w + 19) (testR_eq (ev_waits rfl wl6 rfl)) ((ex_expr ((ev_self0 (f := "put_together") st₆ rfl rfl (ev_acons (ev_loc rfl) (ev_acons (ep _ rfl) ev_anil))).trans put)).trans rfl)).trans (loopW_exit (n := w + 18) (testR_eq (ev_waits rfl wl8 rfl))))
  replace h0 := fun {r} h => h0 (w2.trans (h : _ = r))
  clear w2
  generalize σ₇.set σ₁.length (.list [two x s va vb]) = σ₈ at *
  exact ⟨upd σ₈ p t k2 d, call_ok (n := n + N + 2) (mt ".expr" m_expr rfl) rfl (h0 (expr_end mt ⟨hd0.1, hd⟩ st₈ pl8 (Nat.ne_of_gt hpt.1) rfl rfl)), st₈.upd k2 st.deep, kp8.trans (Keep.upd ..)⟩
end
end Mine
end
section
/-! The pure proof, part 7: what the laws' own defs need: lists cut and joined, loops, equality. -/
set_option maxRecDepth 100000
set_option linter.unusedVariables false
set_option linter.unusedSimpArgs false
namespace Mine
theorem flat_tup {n : Nat} {l : List PV} : PV.flat (n + 1) (.tup l) = true ↔ ∀ x ∈ l, PV.flat n x = true := List.all_eq_true
theorem flat_up : ∀ (n : Nat) (v : PV), PV.flat n v = true → PV.flat (n + 1) v = true
  | n, .none, _ => rfl
  | n, .bool _, _ => rfl
  | n, .int _, _ => rfl
  | n, .str _, _ => rfl
  | n, .obj _, h => by cases n <;> exact nomatch h
  | 0, .tup l, h => nomatch h
  | n + 1, .tup l, h => flat_tup.mpr fun x hx => flat_up n x (flat_tup.mp h x hx)
theorem flat_mono {n m : Nat} {v : PV} (h : PV.flat n v = true) (hm : n ≤ m) : PV.flat m v = true := by
  obtain ⟨k, rfl⟩ := Nat.exists_eq_add_of_le hm
  induction k with
  | zero => exact h
  | succ k ih => exact flat_up _ _ (ih (by omega))
mutual
theorem eqb_refl : ∀ (n : Nat) (v : PV), PV.flat n v = true → PV.eqb v v = true
  | _, .none, _ => rfl
  | _, .bool b, _ => beq_self_eq_true b
  | _, .int i, _ => beq_self_eq_true i
  | _, .str s, _ => beq_self_eq_true s
  | n, .obj _, h => by cases n <;> exact nomatch h
  | 0, .tup l, h => nomatch h
  | n + 1, .tup l, h => eqbL_refl n l (flat_tup.mp h)
theorem eqbL_refl : ∀ (n : Nat) (l : List PV), (∀ x ∈ l, PV.flat n x = true) → PV.eqbL l l = true
  | _, [], _ => rfl
  | n, x :: l, h => Bool.and_eq_true_iff.mpr ⟨eqb_refl n x (h x (List.mem_cons_self ..)), eqbL_refl n l fun y hy => h y (List.mem_cons_of_mem _ hy)⟩
end

section
variable {tbl : String → Option FnDef} {w n : Nat} {sc : Option (List Int)}
theorem eqV_flat {u v : PV} {σ : Hp} (hu : ∀ n, u ≠ .obj n) (h : PV.flat 60 u = true) (h' : PV.flat 60 v = true) : eqV u v σ = some (PV.eqb u v) := by
  have e : (if (PV.flat 60 u && PV.flat 60 v) = true then some (PV.eqb u v) else Option.none) = some (PV.eqb u v) := if_pos (by rw [h, h']; rfl)
  cases u with
  | obj n => exact absurd rfl (hu n)
  | _ => exact e
theorem eqV_same {l : List PV} {σ : Hp} (h : PV.flat 60 (.tup l) = true) : eqV (.tup l) (.tup l) σ = some true := (eqV_flat (u := .tup l) (fun _ e => nomatch e) h h).trans (by rw [eqb_refl 60 _ h])
theorem eqV_int {a b : Int} {σ : Hp} (h : a = b) : eqV (.int a) (.int b) σ = some true := (show eqV (.int a) (.int b) σ = some (a == b) from rfl).trans (by rw [h, beq_self_eq_true])
theorem ev_new {σ σ₁ : Hp} {ρ : Loc} {a : PE} {t : Nat} {ts : List PV} (mt : MT tbl) (h : ev (callN tbl w (n + 1)) sc a ρ σ = .ok (.obj t) σ₁) (ht : σ₁[t]? = some (.list ts)) (hs : ts.length ≤ 1000000) :
    ev (callN tbl w (n + 1)) sc (.new a) ρ σ = .ok (.obj σ₁.length) (σ₁ ++ [pobj t 0 0]) ∧ PSt (σ₁ ++ [pobj t 0 0]) σ₁.length t ts 0 0 :=
  have q := new_parser (w := w) (n := n) mt ht hs
  ⟨(bindE h).trans q.1, q.2⟩
variable {cf : CF} {σ σ₁ σ₂ σ₃ : Hp} {ρ : Loc} {a b : PE} {v u : PV} {l : List PV}
theorem ev_listOfL {k : Nat} (h : ev cf sc a ρ σ = .ok (.obj k) σ₁) (hl : σ₁[k]? = some (.list l)) : ev cf sc (.listOf a) ρ σ = .ok (.obj σ₁.length) (σ₁ ++ [.list l]) := by
  refine (bindE h).trans ?_
  show (match listAt σ₁ k with | some l => newObj (.list l) σ₁ | Option.none => .stuck) = _
  rw [listAt_of hl]; rfl
theorem ev_lenL {k : Nat} (h : ev cf sc a ρ σ = .ok (.obj k) σ₁) (hl : σ₁[k]? = some (.list l)) : ev cf sc (.len a) ρ σ = .ok (.int (l.length : Int)) σ₁ := (ev_len h).trans (lenV_ok (seqAt_of hl))
theorem subV_at {k j : Nat} {x : PV} (hl : σ[k]? = some (.list l)) (hx : l[j]? = some x) (hs : l.length ≤ 1000000) : subV (.obj k) (.int (j : Int)) σ = .ok x σ := (subV_list (seqAt_of hl)).trans (getL_nat hx hs)
theorem natOf_nat {j : Nat} (hj : j ≤ 1000000) : natOf (.int (j : Int)) = some j := if_pos (by omega)
theorem sliceV_ok {k lo : Nat} {hi : Option Nat} (hl : listAt σ k = some l) : sliceV (.obj k) lo hi σ = newObj (.list ((match hi with | some h => l.take h | Option.none => l).drop lo)) σ := by
  show (match listAt σ k with | some l => newObj (.list ((match hi with | some h => l.take h | Option.none => l).drop lo)) σ | Option.none => .stuck) = _
  rw [hl]
theorem ev_sliceTo {k j : Nat} (h : ev cf sc a ρ σ = .ok (.obj k) σ₁) (h2 : ev cf sc b ρ σ₁ = .ok (.int (j : Int)) σ₂) (hl : σ₂[k]? = some (.list l)) (hj : j ≤ 1000000) : ev cf sc (.sliceTo a b) ρ σ = .ok (.obj σ₂.length) (σ₂ ++ [.list (l.take j)]) := by
  refine (bindE h).trans ((bindE h2).trans ?_)
  show (match PV.obj k, natOf (.int (j : Int)) with | .obj n, some h => sliceV (.obj n) 0 (some h) σ₂ | .tup l, some h => cutV l 0 h σ₂ | _, _ => .stuck) = _
  rw [natOf_nat hj]
  exact sliceV_ok (listAt_of hl)
theorem ev_sliceFrom {k j : Nat} (h : ev cf sc a ρ σ = .ok (.obj k) σ₁) (h2 : ev cf sc b ρ σ₁ = .ok (.int (j : Int)) σ₂) (hl : σ₂[k]? = some (.list l)) (hj : j ≤ 1000000) : ev cf sc (.sliceFrom a b) ρ σ = .ok (.obj σ₂.length) (σ₂ ++ [.list (l.drop j)]) := by
  refine (bindE h).trans ((bindE h2).trans ?_)
  show (match PV.obj k, natOf (.int (j : Int)) with | .obj n, some l => sliceV (.obj n) l Option.none σ₂ | _, _ => .stuck) = _
  rw [natOf_nat hj]
  exact sliceV_ok (listAt_of hl)
theorem binV_lists {i j : Nat} {x y : List PV} (h : σ[i]? = some (.list x)) (h' : σ[j]? = some (.list y)) (hs : (x ++ y).length ≤ 100000) : binV .add (.obj i) (.obj j) σ = .ok (.obj σ.length) (σ ++ [.list (x ++ y)]) := by
  show onSome .stuck (listAt σ i) (fun x => onSome .stuck (listAt σ j) fun y => if (x ++ y).length ≤ 100000 then newObj (.list (x ++ y)) σ else .stuck) = _
  rw [listAt_of h, listAt_of h']
  exact if_pos hs
theorem old_app {i : Nat} {o : PO} (h : σ[i]? = some o) (l : Hp) : (σ ++ l)[i]? = some o := (List.getElem?_append_left (List.getElem?_eq_some_iff.mp h).1).trans h

/-- rows with one taken out, in a new list -/
theorem ev_without {x y : String} {k j : Nat} (hx : ρ x = some (.obj k)) (hy : ρ y = some (.int (j : Int))) (hl : σ[k]? = some (.list l)) (hj : j ≤ 100000) (hs : l.length ≤ 50000) :
    ev cf sc (.bin .add (.sliceTo (.loc x) (.loc y)) (.sliceFrom (.loc x) (.bin .add (.loc y) (.int 1)))) ρ σ = .ok (.obj (σ.length + 2)) (σ ++ [.list (l.take j)] ++ [.list (l.drop (j + 1))] ++ [.list (l.take j ++ l.drop (j + 1))]) := by
  have h1 : ev cf sc (.sliceTo (.loc x) (.loc y)) ρ σ = .ok (.obj σ.length) (σ ++ [.list (l.take j)]) := ev_sliceTo (ev_loc hx) (ev_loc hy) hl (by omega)
  have hadd : ev cf sc (.bin .add (.loc y) (.int 1)) ρ (σ ++ [.list (l.take j)]) = .ok (.int ((j + 1 : Nat) : Int)) (σ ++ [.list (l.take j)]) := (ev_bin (ev_loc hy) rfl).trans (add_int (a := (j : Int)) (b := 1) (by omega))
  have h2 : ev cf sc (.sliceFrom (.loc x) (.bin .add (.loc y) (.int 1))) ρ (σ ++ [.list (l.take j)]) = .ok (.obj (σ ++ [PO.list (l.take j)]).length) (σ ++ [.list (l.take j)] ++ [.list (l.drop (j + 1))]) := ev_sliceFrom (ev_loc hx) hadd (old_app hl _) (by omega)
  refine (ev_bin h1 h2).trans ((binV_lists (x := l.take j) (y := l.drop (j + 1)) (old_app (getElem_snoc σ _) _) (getElem_snoc _ _) (by rw [List.length_append, List.length_take, List.length_drop]; omega)).trans ?_)
  rw [List.length_append, List.length_append]; rfl
theorem loopI_all {x : String} {o : Nat} {body : SR} (I : Loc → Hp → Prop) (l : List PV) (hI : ∀ ρ σ, I ρ σ → σ[o]? = some (.list l)) (hb : ∀ v ∈ l, ∀ ρ σ, I ρ σ → ∃ ρ' σ', body (ρ.set x v) σ = .ok (.next, ρ') σ' ∧ I ρ' σ') :
    ∀ (n i : Nat) (ρ : Loc) (σ : Hp), l.length < n + i → i ≤ l.length → I ρ σ → ∃ ρ' σ', loopI x o body n i ρ σ = .ok (.next, ρ') σ' ∧ I ρ' σ'
  | 0, i, ρ, σ, hn, hi, h => by omega
  | n + 1, i, ρ, σ, hn, hi, h => by
    show ∃ ρ' σ', (match listAt σ o with | Option.none => Res.stuck | some l => match l[i]? with | Option.none => .ok (Fl.next, ρ) σ | some v => (body (ρ.set x v) σ).bind fun p σ => match p.1 with | .next => loopI x o body n (i + 1) p.2 σ | .brk => .ok (.next, p.2) σ | .ret v => .ok (.ret v, p.2) σ) = .ok (.next, ρ') σ' ∧ I ρ' σ'
    rw [listAt_of (hI ρ σ h)]
    show ∃ ρ' σ', (match l[i]? with | Option.none => Res.ok (Fl.next, ρ) σ | some v => (body (ρ.set x v) σ).bind fun p σ => match p.1 with | .next => loopI x o body n (i + 1) p.2 σ | .brk => .ok (.next, p.2) σ | .ret v => .ok (.ret v, p.2) σ) = .ok (.next, ρ') σ' ∧ I ρ' σ'
    cases hv : l[i]? with
    | none => exact ⟨ρ, σ, rfl, h⟩
    | some v =>
      obtain ⟨hlt, hv'⟩ := List.getElem?_eq_some_iff.mp hv
      obtain ⟨ρ₁, σ₁, e₁, h₁⟩ := hb v (hv' ▸ List.getElem_mem hlt) ρ σ h
      obtain ⟨ρ₂, σ₂, e₂, h₂⟩ := loopI_all I l hI hb n (i + 1) ρ₁ σ₁ (by omega) (by omega) h₁
      exact ⟨ρ₂, σ₂, (bindE e₁).trans e₂, h₂⟩
end
end Mine
end
section
/-! Law 1: the makers of tokens. -/
set_option maxRecDepth 100000
set_option linter.unusedVariables false
set_option linter.unusedSimpArgs false
namespace Mine.L1
open Mine
noncomputable def LT (tbl : String → Option FnDef) : Prop := ∀ x d, lawL.lookup x = some d → tbl x = some d

structure G (σ : Hp) (a b c : Nat) (r : Nat) (cells L : List PV) : Prop where
  tray : σ[a]? = some (.dict [("cells", .obj c), ("roll", .int (r : Int))])
  cel : σ[c]? = some (.rlist cells)
  rows : σ[b]? = some (.list L)
  okc : ∀ v ∈ cells, ∃ i : Int, v = PV.int i
  small : cells.length ≤ 1000
  rb : r ≤ 100000
  Lb : L.length ≤ 90000
structure KeepG (a b : Nat) (σ σ' : Hp) : Prop where
  len : σ.length ≤ σ'.length
  same : ∀ (i : Nat), i < σ.length → i ≠ a → i ≠ b → σ'[i]? = σ[i]?
theorem KeepG.trans {a b : Nat} {x y z : Hp} (h : KeepG a b x y) (k : KeepG a b y z) : KeepG a b x z :=
  ⟨Nat.le_trans h.len k.len, fun i hi p q => (k.same i (Nat.lt_of_lt_of_le hi h.len) p q).trans (h.same i hi p q)⟩
theorem KeepG.at_ {a b : Nat} {σ σ' : Hp} (k : KeepG a b σ σ') {i : Nat} {o : PO} (h : σ[i]? = some o) (p : i ≠ a) (q : i ≠ b) : σ'[i]? = some o :=
  (k.same i (List.getElem?_eq_some_iff.mp h).1 p q).trans h
theorem KeepG.seta (a b : Nat) (σ : Hp) (o : PO) : KeepG a b σ (σ.set a o) := ⟨by simp, fun i hi p q => List.getElem?_set_ne (Ne.symm p)⟩
theorem KeepG.setb (a b : Nat) (σ : Hp) (o : PO) : KeepG a b σ (σ.set b o) := ⟨by simp, fun i hi p q => List.getElem?_set_ne (Ne.symm q)⟩

theorem ne_of_at {σ : Hp} {i j : Nat} {o o' : PO} (h : σ[i]? = some o) (h' : σ[j]? = some o') (hne : o ≠ o') : i ≠ j := fun e => by
  rw [e, h'] at h; exact hne (Option.some.inj h).symm
theorem getElem?_set_ne' {σ : Hp} {i j : Nat} {o x : PO} (h : σ[j]? = some x) (hne : i ≠ j) : (σ.set i o)[j]? = some x := by rw [List.getElem?_set_ne hne]; exact h

section
variable {tbl : String → Option FnDef} {w n : Nat} {σ : Hp} {a b c r : Nat} {cells L : List PV}
theorem G.ab (g : G σ a b c r cells L) : a ≠ b := ne_of_at g.tray g.rows (by simp)
theorem G.ac (g : G σ a b c r cells L) : a ≠ c := ne_of_at g.tray g.cel (by simp)
theorem G.bc (g : G σ a b c r cells L) : b ≠ c := ne_of_at g.rows g.cel (by simp)
theorem G.lta (g : G σ a b c r cells L) : a < σ.length := (List.getElem?_eq_some_iff.mp g.tray).1
theorem G.ltb (g : G σ a b c r cells L) : b < σ.length := (List.getElem?_eq_some_iff.mp g.rows).1
theorem G.list (g : G σ a b c r cells L) : listAt σ b = some L := listAt_of g.rows
theorem G.seq (g : G σ a b c r cells L) : seqAt σ b = some L := seqAt_of g.rows
theorem G.dict (g : G σ a b c r cells L) : dictAt σ a = some [("cells", .obj c), ("roll", .int (r : Int))] := dictAt_of g.tray
theorem G.cellsAt (g : G σ a b c r cells L) : seqAt σ c = some cells := seqAt_ofR g.cel
theorem G.setRoll (g : G σ a b c r cells L) (h : r + 1 ≤ 100000) : G (σ.set a (.dict [("cells", .obj c), ("roll", .int ((r + 1 : Nat) : Int))])) a b c (r + 1) cells L :=
  ⟨by rw [List.getElem?_set_self g.lta], getElem?_set_ne' g.cel g.ac, getElem?_set_ne' g.rows g.ab, g.okc, g.small, h, g.Lb⟩
theorem G.push (g : G σ a b c r cells L) (v : PV) (h : L.length + 1 ≤ 90000) : G (σ.set b (.list (L ++ [v]))) a b c r cells (L ++ [v]) :=
  ⟨getElem?_set_ne' g.tray (Ne.symm g.ab), getElem?_set_ne' g.cel g.bc, by rw [List.getElem?_set_self g.ltb], g.okc, g.small, g.rb, by simpa using h⟩
theorem G.on {σ' : Hp} (g : G σ a b c r cells L) (h : ∀ i, i = a ∨ i = b ∨ i = c → σ'[i]? = σ[i]?) : G σ' a b c r cells L :=
  ⟨(h a (.inl rfl)).trans g.tray, (h c (.inr (.inr rfl))).trans g.cel, (h b (.inr (.inl rfl))).trans g.rows, g.okc, g.small, g.rb, g.Lb⟩
theorem G.ltc (g : G σ a b c r cells L) : c < σ.length := (List.getElem?_eq_some_iff.mp g.cel).1
theorem G.grow (g : G σ a b c r cells L) (l : Hp) : G (σ ++ l) a b c r cells L :=
  g.on fun i hi => List.getElem?_append_left (by rcases hi with rfl | rfl | rfl; exact g.lta; exact g.ltb; exact g.ltc)
theorem G.setOther (g : G σ a b c r cells L) {i : Nat} (ha : i ≠ a) (hb : i ≠ b) (hc : i ≠ c) (o : PO) : G (σ.set i o) a b c r cells L :=
  g.on fun j hj => List.getElem?_set_ne (by rcases hj with rfl | rfl | rfl <;> assumption)

theorem roll_ok (lt : LT tbl) (g : G σ a b c r cells L) {m : Int} (hm : 0 < m) (hm' : m ≤ 1000) (hr : r + 1 ≤ 100000) : ∃ (i : Int) (σ' : Hp), callN tbl w (n + 1) "_law_roll" [.obj a, .int m] σ = .ok (.int i) σ' ∧ 0 ≤ i ∧ i < m ∧ G σ' a b c (r + 1) cells L ∧ KeepG a b σ σ' := by
  have kk := KeepG.seta a b σ (.dict [("cells", .obj c), ("roll", .int ((r + 1 : Nat) : Int))])
  have g' := g.setRoll hr
  have sm := g.small
  have rb := g.rb
  have e1 : binV .add (.int (r : Int)) (.int 1) σ = .ok (.int ((r + 1 : Nat) : Int)) σ := okInt_ok (i := ((r + 1 : Nat) : Int)) (by omega)
  have h0 : ∀ {R}, ex (callN tbl w n) Option.none w f_law_roll.body.next.next (((Loc.empty.set "many" (.int m)).set "tray" (.obj a)).set "spot" (.int r)) (σ.set a (.dict [("cells", .obj c), ("roll", .int ((r + 1 : Nat) : Int))])) = R → ex (callN tbl w n) Option.none w f_law_roll.body ((Loc.empty.set "many" (.int m)).set "tray" (.obj a)) σ = R := fun h =>
    (ex_asg ((ev_sub (ev_loc rfl) rfl).trans (subV_dict g.dict rfl))).trans ((ex_asgItem ((ev_bin (ev_loc rfl) rfl).trans e1) (ev_loc rfl) (setItemV_ok g.dict rfl)).trans h)
  generalize σ.set a (.dict [("cells", .obj c), ("roll", .int ((r + 1 : Nat) : Int))]) = σ' at *
  have hb : ∀ x : Int, 0 ≤ Int.fmod x m ∧ Int.fmod x m < m := fun x => ⟨by rw [Int.fmod_eq_emod_of_nonneg x (Int.le_of_lt hm)]; exact Int.emod_nonneg x (Int.ne_of_gt hm), Int.fmod_lt_of_pos x hm⟩
  have hbb : ∀ x : Int, (Int.fmod x m).natAbs ≤ 1000000000000 := fun x => by have := hb x; omega
  have ec : ∀ {ρ : Loc}, ρ "tray" = some (.obj a) → ev (callN tbl w n) Option.none (.sub (.loc "tray") (.str "cells")) ρ σ' = .ok (.obj c) σ' := fun hρ => (ev_sub (ev_loc hρ) rfl).trans (subV_dict g'.dict rfl)
  have e3 : ∀ {x : Bool}, decide ((r : Int) < cells.length) = x → ev (callN tbl w n) Option.none (.cmp .lt (.loc "spot") (.len (.sub (.loc "tray") (.str "cells")))) (((Loc.empty.set "many" (.int m)).set "tray" (.obj a)).set "spot" (.int r)) σ' = .ok (.bool x) σ' := fun hx =>
    (ev_cmp (ev_loc rfl) ((ev_len (ec rfl)).trans (lenV_ok g'.cellsAt))).trans ((cmp_lt _ _).trans (by rw [hx]))
  by_cases hlt : r < cells.length
  · obtain ⟨i, hi⟩ := g.okc _ (List.getElem_mem hlt)
    have e4 : cells[r]? = some (.int i) := by rw [List.getElem?_eq_getElem hlt, hi]
    exact ⟨Int.fmod i m, σ', call_ok (lt "_law_roll" f_law_roll rfl) rfl (h0 (ex_if_ret (e3 (decide_eq_true (Int.ofNat_lt.mpr hlt))) (ex_ret ((ev_bin ((ev_sub (ec rfl) (ev_loc rfl)).trans ((subV_list g'.cellsAt).trans (getL_nat e4 (by omega)))) (ev_loc rfl)).trans (mod_int hm (hbb i)))))), (hb i).1, (hb i).2, g', kk⟩
  · have hq := Int.fdiv_nonneg (a := (r : Int)) (b := 3) (by omega) (by omega)
    have hq2 : Int.fdiv (r : Int) 3 ≤ r := by rw [Int.fdiv_eq_ediv_of_nonneg _ (by omega)]; omega
    refine ⟨Int.fmod (4 * (r : Int) + Int.fdiv r 3 + 2) m, σ', call_ok (lt "_law_roll" f_law_roll rfl) rfl (h0 ((ex_skip (e3 (decide_eq_false (fun h => hlt (Int.ofNat_lt.mp h))))).trans (ex_ret ?_))), (hb _).1, (hb _).2, g', kk⟩
    exact (ev_bin ((ev_bin ((ev_bin ((ev_bin rfl (ev_loc rfl)).trans (mul_int (by omega) (by omega))) ((ev_bin (ev_loc rfl) rfl).trans (fdiv_int (by decide) (by omega)))).trans (add_int (by omega))) rfl).trans (add_int (by omega))) (ev_loc rfl)).trans (mod_int hm (hbb _))
end
end Mine.L1
end
section
/-! Law 1: a choice made. -/
set_option maxRecDepth 100000
set_option linter.unusedVariables false
set_option linter.unusedSimpArgs false
namespace Mine
noncomputable def First (kd : String) (u : PV) : Bool := begB kd u && stopB kd u && !isn kd u "then"
noncomputable def Beg2 (seg : List PV) : Prop := ∃ kd u s r, seg = tok kd u s :: r ∧ First kd u = true
structure Made (tbl : String → Option FnDef) (w N need F : Nat) (seg : List PV) (v : PV) : Prop where
  ok : PartOk tbl w N need seg v
  beg : Beg2 seg
  flat : PV.flat F v = true
theorem Made.mono {tbl : String → Option FnDef} {w N N' need need' F F' : Nat} {seg : List PV} {v : PV} (h : Made tbl w N need F seg v) (h1 : N ≤ N') (h2 : need ≤ need') (h3 : F ≤ F') : Made tbl w N' need' F' seg v :=
  ⟨h.ok.mono h1 h2, h.beg, flat_mono h.flat h3⟩
/-- a then, and what stands around it -/
noncomputable def ThenAt (tbl : String → Option FnDef) (w N need : Nat) (seg : List PV) (j : Nat) : Prop :=
  ∃ (P : List (Wy × Int)) (c : List PV) (vc : PV) (st : Int) (kd : String) (u : PV) (s : Int) (tl : List PV), seg = preT P ++ (c ++ wd "then" st :: tok kd u s :: tl) ∧ j = (preT P).length + c.length ∧ (∀ x ∈ P, Wy.Ok tbl w N need x.1) ∧ P.length ≤ 10 ∧ PartOk tbl w N need c vc ∧ stopB kd u = true ∧ isn kd u "then" = false
theorem ThenAt.app {tbl : String → Option FnDef} {w N need : Nat} {seg : List PV} {j : Nat} (h : ThenAt tbl w N need seg j) (l : List PV) : ThenAt tbl w N need (seg ++ l) j := by
  obtain ⟨P, c, vc, st, kd, u, s, tl, e, r⟩ := h
  exact ⟨P, c, vc, st, kd, u, s, tl ++ l, by rw [e]; simp, r⟩
theorem preT_snoc (P : List (Wy × Int)) (x : Wy × Int) : preT (P ++ [x]) = preT P ++ (x.1.toks ++ [wd "elseif" x.2]) := by unfold preT; rw [List.flatMap_append]; simp
namespace L1

section
variable {tbl : String → Option FnDef} {w n : Nat} {σ : Hp} {a b c r : Nat} {cells L : List PV}
theorem laid_ok (lt : LT tbl) (g : G σ a b c r cells L) (kd : String) (v : PV) (hl : L.length + 1 ≤ 90000) : ∃ s σ', callN tbl w (n + 1) "_law_laid" [.obj b, .str kd, v] σ = .ok (.int s) σ' ∧ s = 4 * (L.length : Int) + 9 ∧ G σ' a b c r cells (L ++ [tok kd v s]) ∧ KeepG a b σ σ' := by
  have g' := g.push (tok kd v (4 * (L.length : Int) + 9)) hl
  refine ⟨_, σ.set b (.list (L ++ [tok kd v (4 * (L.length : Int) + 9)])), ?_, rfl, g', KeepG.setb ..⟩
  exact call_ok (lt "_law_laid" f_law_laid rfl) rfl ((ex_asg ((ev_bin ((ev_bin rfl ((ev_len (ev_loc rfl)).trans (lenV_ok g.seq))).trans (mul_int (by omega) (by omega))) rfl).trans (add_int (by omega)))).trans
    ((ex_expr (ev_append (l := L) rfl g.list (ev_tup (ev_acons (ev_loc rfl) (ev_acons (ev_loc rfl) (ev_acons (ev_loc rfl) ev_anil))) (by show 3 ≤ 100000; decide)) g.list (by omega))).trans (ex_ret (ev_loc rfl))))
end

noncomputable def PartSpec (tbl : String → Option FnDef) (w deep nn R S N need F : Nat) : Prop := ∀ n, nn ≤ n → ∀ σ a b c r cells L, G σ a b c r cells L → r + R ≤ 100000 → L.length + S ≤ 90000 →
  ∃ v seg σ' r', callN tbl w n "_law_part" [.obj a, .obj b, .int (deep : Int)] σ = .ok v σ' ∧ G σ' a b c r' cells (L ++ seg) ∧ r' ≤ r + R ∧ seg.length ≤ S ∧ KeepG a b σ σ' ∧ Made tbl w N need F seg v

structure W1 (σ0 σ : Hp) (ρ : Loc) (a b c q r : Nat) (cells L seg vs M offs : List PV) (sp : Int) (deep : Nat) : Prop where
  g : G σ a b c r cells (L ++ seg)
  ways : σ[σ0.length]? = some (.list vs)
  nd : σ[q]? = some (.list (M ++ offs))
  kp : ∀ i, i < σ0.length → i ≠ a → i ≠ b → i ≠ q → σ[i]? = σ0[i]?
  lq : q < σ0.length ∧ a < σ0.length ∧ b < σ0.length ∧ c < σ0.length
  qa : q ≠ a ∧ q ≠ b ∧ q ≠ c
  few : vs.length ≤ 900 ∧ (M ++ offs).length ≤ 900
  tray : ρ "tray" = some (.obj a)
  rows : ρ "rows" = some (.obj b)
  spot : ρ "spot" = some (.int sp)
  dp : ρ "deep" = some (.int (deep : Int))
  need : ρ "needed" = some (.obj q)
  wys : ρ "ways" = some (.obj σ0.length)
section
variable {σ0 σ σ' : Hp} {ρ : Loc} {a b c q r r' : Nat} {cells L seg seg' vs M offs : List PV} {sp : Int} {deep : Nat}
theorem W1.on (h : W1 σ0 σ ρ a b c q r cells L seg vs M offs sp deep) (g : G σ' a b c r' cells (L ++ seg')) (k : KeepG a b σ σ') : W1 σ0 σ' ρ a b c q r' cells L seg' vs M offs sp deep :=
  ⟨g, k.at_ h.ways (by have := h.lq; omega) (by have := h.lq; omega), k.at_ h.nd h.qa.1 h.qa.2.1,
    fun i hi p q s => (k.same i (by have := (List.getElem?_eq_some_iff.mp h.ways).1; omega) p q).trans (h.kp i hi p q s), h.lq, h.qa, h.few, h.tray, h.rows, h.spot, h.dp, h.need, h.wys⟩
theorem W1.set (h : W1 σ0 σ ρ a b c q r cells L seg vs M offs sp deep) {x : String} (v : PV) (hx : x ≠ "tray" ∧ x ≠ "rows" ∧ x ≠ "spot" ∧ x ≠ "deep" ∧ x ≠ "needed" ∧ x ≠ "ways") : W1 σ0 σ (ρ.set x v) a b c q r cells L seg vs M offs sp deep :=
  have s : ∀ y, x ≠ y → (ρ.set x v) y = ρ y := fun y hy => if_neg (Ne.symm hy)
  ⟨h.g, h.ways, h.nd, h.kp, h.lq, h.qa, h.few, (s _ hx.1).trans h.tray, (s _ hx.2.1).trans h.rows, (s _ hx.2.2.1).trans h.spot, (s _ hx.2.2.2.1).trans h.dp, (s _ hx.2.2.2.2.1).trans h.need, (s _ hx.2.2.2.2.2).trans h.wys⟩
theorem W1.listW (h : W1 σ0 σ ρ a b c q r cells L seg vs M offs sp deep) : listAt σ σ0.length = some vs := listAt_of h.ways
theorem W1.listQ (h : W1 σ0 σ ρ a b c q r cells L seg vs M offs sp deep) : listAt σ q = some (M ++ offs) := listAt_of h.nd
theorem W1.pushW (h : W1 σ0 σ ρ a b c q r cells L seg vs M offs sp deep) (v : PV) (hv : vs.length ≤ 800) : W1 σ0 (σ.set σ0.length (.list (vs ++ [v]))) ρ a b c q r cells L seg (vs ++ [v]) M offs sp deep := by
  have hq := h.lq
  exact ⟨h.g.setOther (by omega) (by omega) (by omega) _, by rw [List.getElem?_set_self (List.getElem?_eq_some_iff.mp h.ways).1], getElem?_set_ne' h.nd (by omega),
    fun i hi p q s => by rw [List.getElem?_set_ne (by omega)]; exact h.kp i hi p q s, h.lq, h.qa, ⟨by simp; omega, h.few.2⟩, h.tray, h.rows, h.spot, h.dp, h.need, h.wys⟩
theorem W1.pushQ (h : W1 σ0 σ ρ a b c q r cells L seg vs M offs sp deep) (v : PV) (hv : (M ++ offs).length ≤ 800) : W1 σ0 (σ.set q (.list (M ++ (offs ++ [v])))) ρ a b c q r cells L seg vs M (offs ++ [v]) sp deep := by
  have hq := h.lq
  exact ⟨h.g.setOther h.qa.1 h.qa.2.1 h.qa.2.2 _, getElem?_set_ne' h.ways (by omega), by rw [List.getElem?_set_self (List.getElem?_eq_some_iff.mp h.nd).1],
    fun i hi p q s => by rw [List.getElem?_set_ne (Ne.symm s)]; exact h.kp i hi p q s, h.lq, h.qa, ⟨h.few.1, by simp at hv ⊢; omega⟩, h.tray, h.rows, h.spot, h.dp, h.need, h.wys⟩
end

section
variable {tbl : String → Option FnDef} {w n : Nat}
/-- one way laid, behind its elseif -/
noncomputable abbrev wayTail : PB := (.asg "condition" (.call "_law_part" (.acons (.loc "tray") (.acons (.loc "rows") (.acons (.loc "deep") .anil))))
      (.expr (.append (.loc "needed") (.len (.loc "rows")))
      (.expr (.call "_law_laid" (.acons (.loc "rows") (.acons (.str "word") (.acons (.str "then") .anil))))
      (.expr (.append (.loc "ways") (.tup (.acons (.loc "condition") (.acons (.call "_law_part" (.acons (.loc "tray") (.acons (.loc "rows") (.acons (.loc "deep") .anil)))) .anil))))
      .nil))))

theorem way_made (lt : LT tbl) {deep nn R S N need F : Nat} (ps : PartSpec tbl w deep nn R S N need F) (hn : nn + 2 ≤ n) {σ0 σ : Hp} {ρ : Loc} {a b c q r : Nat} {cells L vs M offs : List PV} {sp : Int} {P : List (Wy × Int)}
    (h : W1 σ0 σ ρ a b c q r cells L (preT P) vs M offs sp deep) (hP : ∀ x ∈ P, Wy.Ok tbl w N need x.1) (hl : P.length ≤ 10) (hr : r + 2 * R ≤ 100000) (hs : (L ++ preT P).length + (2 * S + 1) ≤ 90000) (hv : vs.length ≤ 800) (ho : (M ++ offs).length ≤ 800) :
    ∃ σ' ρ' r' y off, W1 σ0 σ' ρ' a b c q r' cells L (preT P ++ y.toks) (vs ++ [y.val]) M (offs ++ [off]) sp deep ∧ ex (callN tbl w n) Option.none w wayTail ρ σ = .ok (.next, ρ') σ' ∧ r' ≤ r + 2 * R ∧ y.toks.length ≤ 2 * S + 1 ∧ Wy.Ok tbl w N need y ∧ PV.flat F y.vc = true ∧ PV.flat F y.vt = true ∧
      ∃ j : Nat, off = .int ((L.length + j : Nat) : Int) ∧ ThenAt tbl w N need (preT P ++ y.toks) j := by
  obtain ⟨n, rfl⟩ : ∃ m, n = m + 1 := ⟨n - 1, by omega⟩
  obtain ⟨vc, c1, σ₁, r₁, e₁, g₁, hr₁, hs₁, k₁, m₁⟩ := ps (n + 1) (by omega) σ a b c r cells _ h.g (by omega) (by omega)
  have h₁ := (h.on (seg' := preT P ++ c1) (by rw [← List.append_assoc]; exact g₁) k₁).set (x := "condition") vc (by decide)
  have h₂ := h₁.pushQ (.int ((L ++ (preT P ++ c1)).length : Int)) ho
  obtain ⟨st, σ₃, e₃, es, g₃, k₃⟩ := laid_ok (w := w) (n := n) lt h₂.g "word" (.str "then") (by simp at hs ⊢; omega)
  have h₃ := h₂.on (seg' := preT P ++ (c1 ++ [wd "then" st])) (by simpa using g₃) k₃
  obtain ⟨vt, t1, σ₄, r₄, e₄, g₄, hr₄, hs₄, k₄, m₄⟩ := ps (n + 1) (by omega) σ₃ a b c _ cells _ h₃.g (by omega) (by simp at hs ⊢; omega)
  have h₄ := h₃.on (seg' := preT P ++ (Wy.mk c1 vc st t1 vt).toks) (by simpa [Wy.toks] using g₄) k₄
  have h₅ := h₄.pushW (Wy.mk c1 vc st t1 vt).val hv
  refine ⟨_, _, r₄, Wy.mk c1 vc st t1 vt, _, h₅, ?_, by omega, by simp [Wy.toks]; omega, ⟨m₁.ok, m₄.ok⟩, m₁.flat, m₄.flat, (preT P ++ c1).length, by simp, ?_⟩
  · rw [ex_asg ((ev_call (ev_acons (ev_loc h.tray) (ev_acons (ev_loc h.rows) (ev_acons (ev_loc h.dp) ev_anil)))).trans e₁)]
    rw [ex_expr (ev_append h₁.need h₁.listQ (v := .int ((L ++ (preT P ++ c1)).length : Int)) (σ₁ := σ₁) ((ev_len (ev_loc h₁.rows)).trans (lenV_ok h₁.g.seq)) h₁.listQ (by omega))]
    rw [List.append_assoc M]
    rw [ex_expr ((ev_call (ev_acons (ev_loc h₂.rows) (ev_acons rfl (ev_acons rfl ev_anil)))).trans e₃)]
    rw [ex_expr (ev_append h₃.wys h₃.listW (ev_tup (ev_acons (ev_loc rfl) (ev_acons ((ev_call (ev_acons (ev_loc h₃.tray) (ev_acons (ev_loc h₃.rows) (ev_acons (ev_loc h₃.dp) ev_anil)))).trans e₄) ev_anil)) (by simp)) h₄.listW (by omega))]
    rfl
  · obtain ⟨kd, u, s, tl, et, hf⟩ := m₄.beg
    unfold First at hf
    simp only [Bool.and_eq_true, Bool.not_eq_true'] at hf
    exact ⟨P, c1, vc, st, kd, u, s, tl, by simp [Wy.toks, et], by simp, hP, hl, m₁.ok, hf.1.2, hf.2⟩
end
end L1
end Mine
end
section
/-! Law 1: the choice, and a part. -/
set_option maxRecDepth 100000
set_option linter.unusedVariables false
set_option linter.unusedSimpArgs false
namespace Mine.L1
open Mine
section
variable {tbl : String → Option FnDef} {w n : Nat}

/-- after some laps -/
structure Laps (tbl : String → Option FnDef) (w N need F : Nat) (σ0 σ : Hp) (ρ : Loc) (a b c q r : Nat) (cells L M : List PV) (sp : Int) (deep : Nat) (P : List (Wy × Int)) (y : Wy) (offs : List PV) : Prop where
  h : W1 σ0 σ ρ a b c q r cells L (preT P ++ y.toks) (P.map (·.1.val) ++ [y.val]) M offs sp deep
  okP : ∀ x ∈ P, Wy.Ok tbl w N need x.1
  ok : Wy.Ok tbl w N need y
  flP : ∀ x ∈ P, PV.flat F x.1.vc = true ∧ PV.flat F x.1.vt = true
  fl : PV.flat F y.vc = true ∧ PV.flat F y.vt = true
  offs : ∀ o ∈ offs, ∃ j : Nat, o = .int ((L.length + j : Nat) : Int) ∧ ThenAt tbl w N need (preT P ++ y.toks) j

noncomputable abbrev lapBody (cf : CF) (w : Nat) : SR := ex cf Option.none w
  (.ifS (.cmp .gt (.loc "lap") (.int 0))
        (.expr (.call "_law_laid" (.acons (.loc "rows") (.acons (.str "word") (.acons (.str "elseif") .anil))))
        .nil)
        .nil wayTail)

theorem lap0 (lt : LT tbl) {deep nn R S N need F : Nat} (ps : PartSpec tbl w deep nn R S N need F) (hn : nn + 2 ≤ n) {σ0 σ : Hp} {ρ : Loc} {a b c q r : Nat} {cells L M : List PV} {sp : Int}
    (h : W1 σ0 σ ρ a b c q r cells L [] [] M [] sp deep) (hr : r + 2 * R ≤ 100000) (hs : L.length + (2 * S + 1) ≤ 90000) (ho : M.length ≤ 700) :
    ∃ σ' ρ' r' P y offs, Laps tbl w N need F σ0 σ' ρ' a b c q r' cells L M sp deep P y offs ∧ lapBody (callN tbl w n) w (ρ.set "lap" (.int 0)) σ = .ok (.next, ρ') σ' ∧ r' ≤ r + 2 * R ∧ (preT P ++ y.toks).length ≤ 2 * S + 2 ∧ P.length = 0 ∧ offs.length = 1 := by
  obtain ⟨σ', ρ', r', y, off, h', e', hr', hs', ok, f1, f2, hj⟩ := way_made (P := []) lt ps hn (h.set (x := "lap") (.int 0) (by decide)) (by simp) (by simp) hr (by simpa [preT] using hs) (by simp) (by simp; omega)
  refine ⟨σ', ρ', r', [], y, [off], ⟨h', by simp, ok, by simp, ⟨f1, f2⟩, by intro o ho; rw [List.mem_singleton] at ho; subst ho; exact hj⟩, ?_, hr', by simp [preT]; omega, rfl, rfl⟩
  show ex _ _ _ _ _ _ = _
  rw [ex_if_false (σ₁ := σ) (testR_eq ((ev_cmp (ev_loc rfl) rfl).trans rfl))]
  exact e'

theorem lapS (lt : LT tbl) {deep nn R S N need F : Nat} (ps : PartSpec tbl w deep nn R S N need F) (hn : nn + 2 ≤ n) {σ0 σ : Hp} {ρ : Loc} {a b c q r : Nat} {cells L M : List PV} {sp : Int} {P : List (Wy × Int)} {y : Wy} {offs : List PV}
    (h : Laps tbl w N need F σ0 σ ρ a b c q r cells L M sp deep P y offs) (hP : P.length ≤ 5) (hr : r + 2 * R ≤ 100000) (hs : L.length + (preT P ++ y.toks).length + (2 * S + 2) ≤ 90000) (ho : M.length ≤ 700) (hoo : offs.length ≤ 10) {l : Int} (hl : 0 < l) :
    ∃ σ' ρ' r' P' y' offs', Laps tbl w N need F σ0 σ' ρ' a b c q r' cells L M sp deep P' y' offs' ∧ lapBody (callN tbl w n) w (ρ.set "lap" (.int l)) σ = .ok (.next, ρ') σ' ∧ r' ≤ r + 2 * R ∧ (preT P' ++ y'.toks).length ≤ (preT P ++ y.toks).length + (2 * S + 2) ∧ P'.length = P.length + 1 ∧ offs'.length = offs.length + 1 := by
  have h1 := h.h.set (x := "lap") (.int l) (by decide)
  obtain ⟨m, rfl⟩ : ∃ m, n = m + 1 := ⟨n - 1, by omega⟩
  obtain ⟨se, σ₁, e₁, es, g₁, k₁⟩ := laid_ok (w := w) (n := m) lt h1.g "word" (.str "elseif") (by simp at hs ⊢; omega)
  have hp : preT (P ++ [(y, se)]) = preT P ++ (y.toks ++ [wd "elseif" se]) := preT_snoc P (y, se)
  have h2 := h1.on (seg' := preT (P ++ [(y, se)])) (by rw [hp]; simpa using g₁) k₁
  have okP' : ∀ x ∈ P ++ [(y, se)], Wy.Ok tbl w N need x.1 := fun x hx => by
    rcases List.mem_append.mp hx with hx | hx
    · exact h.okP x hx
    · rw [List.mem_singleton] at hx; subst hx; exact h.ok
  have flP' : ∀ x ∈ P ++ [(y, se)], PV.flat F x.1.vc = true ∧ PV.flat F x.1.vt = true := fun x hx => by
    rcases List.mem_append.mp hx with hx | hx
    · exact h.flP x hx
    · rw [List.mem_singleton] at hx; subst hx; exact h.fl
  have hpl : (preT (P ++ [(y, se)])).length = (preT P ++ y.toks).length + 1 := by rw [hp]; simp; omega
  obtain ⟨σ', ρ', r', y', off, h', e', hr', hs', ok, f1, f2, j, hj⟩ := way_made (P := P ++ [(y, se)]) lt ps hn h2 okP' (by simp; omega) hr (by rw [List.length_append, hpl]; omega) (by simp; omega) (by simp; omega)
  refine ⟨σ', ρ', r', P ++ [(y, se)], y', offs ++ [off], ⟨by simpa using h', okP', ok, flP', ⟨f1, f2⟩, ?_⟩, ?_, hr', by rw [List.length_append, hpl]; omega, by simp, by simp⟩
  · intro o ho
    rcases List.mem_append.mp ho with ho | ho
    · obtain ⟨j', hj', t'⟩ := h.offs o ho
      refine ⟨j', hj', ?_⟩
      have := t'.app ([wd "elseif" se] ++ y'.toks)
      rw [hp]
      simpa using this
    · rw [List.mem_singleton] at ho; subst ho; exact ⟨j, hj⟩
  · show ex _ _ _ _ _ _ = _
    rw [ex_if_true (σ₁ := σ) (testR_eq ((ev_cmp (ev_loc rfl) rfl).trans ((cmp_gt l 0).trans (by rw [decide_eq_true hl]))))]
    rw [thenK_next (ρ := ρ.set "lap" (.int l)) (σ := σ₁) (by rw [ex_expr ((ev_call (ev_acons (ev_loc h1.rows) (ev_acons rfl (ev_acons rfl ev_anil)))).trans e₁)]; rfl)]
    exact e'

theorem rangeOf_nat (m : Nat) (hm : m ≤ 1000) : rangeOf [.int (m : Int)] = some ((List.range m).map fun (k : Nat) => (k : Int)) := by
  show (if ((m : Int)).natAbs ≤ 100000 then _ else _) = _
  rw [if_pos (by omega)]
  simp

/-- all laps -/
theorem laps (lt : LT tbl) {deep nn R S N need F : Nat} (ps : PartSpec tbl w deep nn R S N need F) (hn : nn + 2 ≤ n) {σ0 σ : Hp} {ρ : Loc} {a b c q r : Nat} {cells L M : List PV} {sp : Int}
    (h : W1 σ0 σ ρ a b c q r cells L [] [] M [] sp deep) (hr : r + 6 * R ≤ 100000) (hs : L.length + (6 * S + 6) ≤ 90000) (ho : M.length ≤ 700) {i : Int} (hi : 0 ≤ i) (hi' : i < 3) :
    ∃ σ' ρ' r' P y offs l, Laps tbl w N need F σ0 σ' ρ' a b c q r' cells L M sp deep P y offs ∧ rangeOf [.int (1 + i)] = some l ∧ loopL "lap" (lapBody (callN tbl w n) w) (l.map .int) ρ σ = .ok (.next, ρ') σ' ∧ r' ≤ r + 6 * R ∧ (preT P ++ y.toks).length ≤ 6 * S + 6 ∧ P.length ≤ 2 ∧ offs.length ≤ 3 := by
  obtain ⟨σ₁, ρ₁, r₁, P₁, y₁, o₁, h₁, e₁, hr₁, hs₁, hP₁, ho₁⟩ := lap0 lt ps hn h (by omega) (by omega) ho
  have hi3 : i = 0 ∨ i = 1 ∨ i = 2 := by omega
  rcases hi3 with rfl | hi3
  · exact ⟨σ₁, ρ₁, r₁, P₁, y₁, o₁, [0], h₁, rfl, (loopL_next e₁).trans rfl, by omega, by omega, by omega, by omega⟩
  obtain ⟨σ₂, ρ₂, r₂, P₂, y₂, o₂, h₂, e₂, hr₂, hs₂, hP₂, ho₂⟩ := lapS lt ps hn h₁ (by omega) (by omega) (by omega) ho (by omega) (l := 1) (by omega)
  rcases hi3 with rfl | rfl
  · exact ⟨σ₂, ρ₂, r₂, P₂, y₂, o₂, [0, 1], h₂, rfl, (loopL_next e₁).trans ((loopL_next e₂).trans rfl), by omega, by omega, by omega, by omega⟩
  obtain ⟨σ₃, ρ₃, r₃, P₃, y₃, o₃, h₃, e₃, hr₃, hs₃, hP₃, ho₃⟩ := lapS lt ps hn h₂ (by omega) (by omega) (by omega) ho (by omega) (l := 2) (by omega)
  exact ⟨σ₃, ρ₃, r₃, P₃, y₃, o₃, [0, 1, 2], h₃, rfl, (loopL_next e₁).trans ((loopL_next e₂).trans ((loopL_next e₃).trans rfl)), by omega, by omega, by omega, by omega⟩

/-- a choice as it is made -/
structure ChoM (tbl : String → Option FnDef) (w N need F : Nat) (sp : Int) (P : List (Wy × Int)) (y : Wy) (o : OthT) (se : Int) : Prop where
  okP : ∀ x ∈ P, Wy.Ok tbl w N need x.1
  ok : Wy.Ok tbl w N need y
  oko : OthOk tbl w N need o
  few : P.length ≤ 10
  flat : PV.flat (F + 3) (choV sp P y o) = true

noncomputable def ChosenSpec (tbl : String → Option FnDef) (w deep nn R S N need F : Nat) : Prop := ∀ n, nn ≤ n → ∀ σ a b c q r cells L M sp, G σ a b c r cells L → σ[q]? = some (.list M) → q ≠ a ∧ q ≠ b ∧ q ≠ c → r + R ≤ 100000 → L.length + S ≤ 90000 → M.length ≤ 700 →
  ∃ P y o se σ' r' offs, callN tbl w n "_law_chosen" [.obj a, .obj b, .int sp, .int (deep : Int), .obj q] σ = .ok (choV sp P y o) σ' ∧ G σ' a b c r' cells (L ++ choT P y o se) ∧ r' ≤ r + R ∧ (choT P y o se).length ≤ S ∧
    σ.length ≤ σ'.length ∧ (∀ i, i < σ.length → i ≠ a → i ≠ b → i ≠ q → σ'[i]? = σ[i]?) ∧ σ'[q]? = some (.list (M ++ offs)) ∧ ChoM tbl w N need F sp P y o se ∧ offs.length ≤ 4 ∧
    ∀ x ∈ offs, ∃ j : Nat, x = .int ((L.length + j : Nat) : Int) ∧ (ThenAt tbl w N need (choT P y o se) j ∨ j + 1 = (choT P y o se).length)

theorem other_made (lt : LT tbl) {deep nn R S N need F : Nat} (ps : PartSpec tbl w deep nn R S N need F) (hn : nn + 2 ≤ n) (hF : 1 ≤ F) {σ0 σ : Hp} {ρ : Loc} {a b c q r : Nat} {cells L seg vs M offs : List PV} {sp : Int}
    (h : W1 σ0 σ ρ a b c q r cells L seg vs M offs sp deep) (hr : r + 1 + R ≤ 100000) (hs : (L ++ seg).length + (S + 1) ≤ 90000) :
    ∃ o σ' ρ' r', OthOk tbl w N need o ∧ W1 σ0 σ' ρ' a b c q r' cells L (seg ++ othT o) vs M offs sp deep ∧ ρ' "other" = some (othV sp o) ∧ r' ≤ r + 1 + R ∧ (othT o).length ≤ S + 1 ∧ PV.flat F (othV sp o) = true ∧ ∀ K,
      ex (callN tbl w n) Option.none w (.asg "other" (.tup (.acons (.str "bool") (.acons (.loc "spot") (.acons (.bool true) .anil))))
    (.ifS (.cmp .gt (.call "_law_roll" (.acons (.loc "tray") (.acons (.int 3) .anil))) (.int 0))
      (.expr (.call "_law_laid" (.acons (.loc "rows") (.acons (.str "word") (.acons (.str "else") .anil))))
      (.asg "other" (.call "_law_part" (.acons (.loc "tray") (.acons (.loc "rows") (.acons (.loc "deep") .anil))))
      .nil))
      .nil K)) ρ σ = ex (callN tbl w n) Option.none w K ρ' σ' := by
  obtain ⟨n, rfl⟩ : ∃ m, n = m + 1 := ⟨n - 1, by omega⟩
  have h1 := h.set (x := "other") (.tup [.str "bool", .int sp, .bool true]) (by decide)
  obtain ⟨i, σ₁, e₁, hi0, hi3, g₁, k₁⟩ := roll_ok (w := w) (n := n) lt h1.g (m := 3) (by decide) (by decide) (by omega)
  have h2 := h1.on g₁ k₁
  have ec : ∀ ρ', ρ' "tray" = some (.obj a) → ev (callN tbl w (n + 1)) Option.none (.cmp .gt (.call "_law_roll" (.acons (.loc "tray") (.acons (.int 3) .anil))) (.int 0)) ρ' σ = .ok (.bool (decide (0 < i))) σ₁ := fun ρ' h' => by
    have : ev (callN tbl w (n + 1)) Option.none (.call "_law_roll" (.acons (.loc "tray") (.acons (.int 3) .anil))) ρ' σ = .ok (.int i) σ₁ := (ev_call (ev_acons (ev_loc h') (ev_acons rfl ev_anil))).trans e₁
    show (ev _ _ (.call _ _) _ _).bind _ = _
    rw [this]; rfl
  by_cases hi : 0 < i
  · obtain ⟨so, σ₂, e₂, es, g₂, k₂⟩ := laid_ok (w := w) (n := n) lt h2.g "word" (.str "else") (by simp at hs ⊢; omega)
    have h3 := h2.on (seg' := seg ++ [wd "else" so]) (by simpa using g₂) k₂
    obtain ⟨v, sg, σ₃, r₃, e₃, g₃, hr₃, hs₃, k₃, m₃⟩ := ps (n + 1) (by omega) σ₂ a b c _ cells _ h3.g (by omega) (by simp at hs ⊢; omega)
    have h4 := (h3.on (seg' := seg ++ othT (some (so, sg, v))) (by simpa [othT] using g₃) k₃).set (x := "other") v (by decide)
    refine ⟨some (so, sg, v), σ₃, _, r₃, m₃.ok, h4, rfl, by omega, by simp [othT]; omega, m₃.flat, fun K => ?_⟩
    rw [ex_asg (ev_tup (ev_acons rfl (ev_acons (ev_loc h.spot) (ev_acons rfl ev_anil))) (by simp))]
    rw [ex_if_true (testR_eq ((ec _ h1.tray).trans (by rw [decide_eq_true hi])))]
    rw [thenK_next (by
      rw [ex_expr ((ev_call (ev_acons (ev_loc h2.rows) (ev_acons rfl (ev_acons rfl ev_anil)))).trans e₂)]
      rw [ex_asg ((ev_call (ev_acons (ev_loc h3.tray) (ev_acons (ev_loc h3.rows) (ev_acons (ev_loc h3.dp) ev_anil)))).trans e₃)]
      rfl)]
  · refine ⟨Option.none, σ₁, _, r + 1, trivial, by simpa [othT] using h2, rfl, by omega, by simp [othT], ?_, fun K => ?_⟩
    · exact flat_mono (n := 1) rfl hF
    · rw [ex_asg (ev_tup (ev_acons rfl (ev_acons (ev_loc h.spot) (ev_acons rfl ev_anil))) (by simp))]
      rw [ex_if_false (testR_eq ((ec _ h1.tray).trans (by rw [decide_eq_false hi])))]

theorem chosen_ok (lt : LT tbl) {deep nn R S N need F : Nat} (ps : PartSpec tbl w deep nn R S N need F) (hF : 1 ≤ F) : ChosenSpec tbl w deep (nn + 3) (7 * R + 2) (7 * S + 8) N need F := by
  intro n hn σ a b c q r cells L M sp g hq hne hr hs hM
  obtain ⟨n, rfl⟩ : ∃ m, n = m + 2 := ⟨n - 2, by omega⟩
  have hqlt : q < σ.length := (List.getElem?_eq_some_iff.mp hq).1
  have h0 : W1 σ (σ ++ [.list []]) ((((((Loc.empty.set "needed" (.obj q)).set "deep" (.int (deep : Int))).set "spot" (.int sp)).set "rows" (.obj b)).set "tray" (.obj a)).set "ways" (.obj σ.length)) a b c q r cells L [] [] M [] sp deep :=
    ⟨by simpa using g.grow _, getElem_snoc σ _, by rw [List.getElem?_append_left hqlt]; simpa using hq, fun i hi _ _ _ => List.getElem?_append_left hi, ⟨hqlt, g.lta, g.ltb, g.ltc⟩, hne, by simp; omega, rfl, rfl, rfl, rfl, rfl, rfl⟩
  obtain ⟨i, σ₁, e₁, hi0, hi3, g₁, k₁⟩ := roll_ok (w := w) (n := n) lt h0.g (m := 3) (by decide) (by decide) (by omega)
  have h1 := h0.on (seg' := []) g₁ k₁
  obtain ⟨σ₂, ρ₂, r₂, P, y, offs, l, h2, hl, e₂, hr₂, hs₂, hP, ho⟩ := laps lt ps (n := n + 1) (by omega) h1 (by omega) (by omega) hM hi0 hi3
  obtain ⟨o, σ₃, ρ₃, r₃, oko, h3, hoth, hr₃, hs₃, hfo, e₃⟩ := other_made lt ps (n := n + 1) (by omega) hF h2.h (by omega) (by simp at hs₂ ⊢; omega)
  have h4 := h3.pushQ (.int ((L ++ (preT P ++ y.toks ++ othT o)).length : Int)) (by simp; omega)
  obtain ⟨se, σ₅, e₅, es, g₅, k₅⟩ := laid_ok (w := w) (n := n) lt h4.g "word" (.str "endif") (by simp at hs₂ ⊢; omega)
  have h5 := h4.on (seg' := choT P y o se) (by simpa [choT] using g₅) k₅
  have hlen : (choT P y o se).length = (preT P ++ y.toks ++ othT o).length + 1 := by simp [choT]; omega
  refine ⟨P, y, o, se, σ₅, r₃, offs ++ [.int ((L ++ (preT P ++ y.toks ++ othT o)).length : Int)], ?_, h5.g, by omega, by rw [hlen, List.length_append]; omega, ?_, h5.kp, h5.nd, ⟨h2.okP, h2.ok, oko, by omega, ?_⟩, by simp; omega, ?_⟩
  · refine call_ok (ρ' := ρ₃) (lt "_law_chosen" f_law_chosen rfl) rfl ((ex_asg (ev_listE ev_anil (Nat.zero_le _))).trans ?_)
    rw [ex_forR (ev_acons (v := .int (1 + i)) (σ₁ := σ₁) (by
      have : ev (callN tbl w (n + 1)) Option.none (.call "_law_roll" (.acons (.loc "tray") (.acons (.int 3) .anil))) ((((((Loc.empty.set "needed" (.obj q)).set "deep" (.int (deep : Int))).set "spot" (.int sp)).set "rows" (.obj b)).set "tray" (.obj a)).set "ways" (.obj σ.length)) (σ ++ [.list []]) = .ok (.int i) σ₁ := (ev_call (ev_acons (ev_loc h0.tray) (ev_acons rfl ev_anil))).trans e₁
      show (ev _ _ (.int 1) _ _).bind _ = _
      show (ev _ _ (.call _ _) _ _).bind _ = _
      rw [this]
      exact okInt_ok (by omega)) ev_anil) hl e₂]
    rw [e₃]
    rw [ex_expr (ev_append h3.need h3.listQ (v := .int ((L ++ (preT P ++ y.toks ++ othT o)).length : Int)) (σ₁ := σ₃) ((ev_len (ev_loc h3.rows)).trans (lenV_ok h3.g.seq)) h3.listQ (by simp; omega))]
    rw [List.append_assoc M]
    rw [ex_expr ((ev_call (ev_acons (ev_loc h4.rows) (ev_acons rfl (ev_acons rfl ev_anil)))).trans e₅)]
    exact ex_ret (ev_tup (ev_acons rfl (ev_acons (ev_loc h5.spot) (ev_acons (ev_tupleOf (ev_loc h5.wys) h5.listW) (ev_acons (ev_loc hoth) ev_anil)))) (by show 4 ≤ 100000; decide))
  · have := (List.getElem?_eq_some_iff.mp h5.ways).1; omega
  · have fy : ∀ z : Wy, PV.flat F z.vc = true ∧ PV.flat F z.vt = true → PV.flat (F + 1) z.val = true := fun z hz => flat_tup.mpr fun x hx => by
      rcases List.mem_cons.mp hx with rfl | hx
      · exact hz.1
      · rw [List.mem_singleton] at hx; subst hx; exact hz.2
    refine flat_tup.mpr fun x hx => ?_
    simp only [List.mem_cons, List.not_mem_nil, or_false] at hx
    rcases hx with rfl | rfl | rfl | rfl
    · rfl
    · rfl
    · refine flat_tup.mpr fun x hx => ?_
      rcases List.mem_append.mp hx with hx | hx
      · obtain ⟨z, hz, rfl⟩ := List.mem_map.mp hx
        exact fy z.1 (h2.flP z hz)
      · rw [List.mem_singleton] at hx; subst hx; exact fy y h2.fl
    · exact flat_mono hfo (by omega)
  · intro x hx
    rcases List.mem_append.mp hx with hx | hx
    · obtain ⟨j, hj, t⟩ := h2.offs x hx
      have := t.app (othT o ++ [wd "endif" se])
      exact ⟨j, hj, .inl (by simpa [choT] using this)⟩
    · rw [List.mem_singleton] at hx
      exact ⟨(preT P ++ y.toks ++ othT o).length, by rw [hx]; simp, .inr hlen.symm⟩
end
end Mine.L1
end
section
/-! Law 1: the parts. -/
set_option maxRecDepth 100000
set_option linter.unusedVariables false
set_option linter.unusedSimpArgs false
namespace Mine
section
variable {tbl : String → Option FnDef} {w : Nat}
theorem operand_of_atom (mt : MT tbl) (hw : 20 ≤ w) {N need : Nat} {seg : List PV} {v : PV} (hb : Begs seg) (h : AtomOk tbl w (N + 1) need seg v) {ts : List PV} {k : Nat} {d : Int} {kd : String} {u : PV} {s : Int} (a : At ts k seg) (e : ts[k + seg.length]? = some (tok kd u s)) (h1 : tv u = true) (h2 : isn kd u "[" = false) (h3 : isn kd u "(" = false) (hd : d + (need : Int) ≤ 40) :
    Does tbl w (N + 2) ".operand" [] ts k d v (k + seg.length) := by
  obtain ⟨kd0, u0, s0, r, hs, hb0⟩ := hb
  obtain ⟨g1, g2, g3⟩ := beg_all hb0
  have h0 : ts[k]? = some (tok kd0 u0 s0) := by rw [hs] at a; exact a.head
  exact operand_plain mt hw h0 (beg_tv hb0) g1 g2 g3 (h ts k d kd u s a e h1 h3 hd) e h1 h2
theorem part_two (mt : MT tbl) (hw : 20 ≤ w) {N need : Nat} {sa sb : List PV} {va vb : PV} (ba : Begs sa) (ha : AtomOk tbl w (N + 1) need sa va) (bb : Begs sb) (hb : AtomOk tbl w (N + 1) need sb vb) {kd x : String} {i : Int} (s : Int) (hk : (kd == "word" || kd == "sign") = true)
    (hi : getKey x (levelsTab.map fun p => (p.1, PV.int p.2)) = some (.int i)) (hi0 : 0 < i) (h1 : isn kd (.str x) "[" = false) (h2 : isn kd (.str x) "(" = false) : PartOk tbl w (N + 3) (need + 1) (sa ++ tok kd (.str x) s :: sb) (two x s va vb) := by
  intro ts k d kd' u s' a e b c
  have e1 := a.right.head
  have hA := operand_of_atom mt hw ba ha (d := d + 1) a.left e1 rfl h1 h2 (by omega)
  have hl : k + (sa ++ tok kd (.str x) s :: sb).length = k + sa.length + 1 + sb.length := by simp; omega
  rw [hl] at e ⊢
  have hB := operand_of_atom mt hw bb hb (d := d + 1) a.right.tail e (stop_tv b) (stop_sq b) (stop_rd b) (by omega)
  exact expr_two mt hw (by omega) hA e1 hk hi hi0 hB e (stop_lv b)
end
namespace L1
section
variable {tbl : String → Option FnDef} {w n : Nat}

theorem made_int (mt : MT tbl) (hw : 20 ≤ w) (i s : Int) : Made tbl w 7 1 2 [tok "int" (.int i) s] (.tup [.str "int", .int s, .int i]) :=
  ⟨part_of_atom mt hw ⟨_, _, _, _, rfl, rfl⟩ (atom_int' mt s i), ⟨_, _, _, _, rfl, rfl⟩, rfl⟩
theorem made_name (mt : MT tbl) (hw : 20 ≤ w) (y : String) (s : Int) : Made tbl w 7 1 2 [tok "name" (.str y) s] (.tup [.str "name", .int s, .str y]) :=
  ⟨part_of_atom mt hw ⟨_, _, _, _, rfl, rfl⟩ (atom_name' mt y s), ⟨_, _, _, _, rfl, rfl⟩, rfl⟩
theorem made_bool (mt : MT tbl) (hw : 20 ≤ w) {y : String} (hy : y = "true" ∨ y = "false") (s : Int) : Made tbl w 7 1 2 [tok "word" (.str y) s] (.tup [.str "bool", .int s, .bool (y == "true")]) :=
  ⟨part_of_atom mt hw ⟨_, _, _, _, rfl, by rcases hy with rfl | rfl <;> rfl⟩ (atom_bool' mt hy s), ⟨_, _, _, _, rfl, by rcases hy with rfl | rfl <;> rfl⟩, rfl⟩
theorem made_sum (mt : MT tbl) (hw : 20 ≤ w) (y : String) (i s1 s2 s3 : Int) : Made tbl w 7 1 2 [tok "name" (.str y) s1, tok "sign" (.str "+") s2, tok "int" (.int i) s3] (.tup [.str "bin", .int s2, .str "+", .tup [.str "name", .int s1, .str y], .tup [.str "int", .int s3, .int i]]) :=
  ⟨part_two mt hw (sa := [tok "name" (.str y) s1]) (sb := [tok "int" (.int i) s3]) ⟨_, _, _, _, rfl, rfl⟩ (atom_name' mt y s1) ⟨_, _, _, _, rfl, rfl⟩ (atom_int' mt s3 i) s2 rfl (i := 9) rfl (by decide) rfl rfl, ⟨_, _, _, _, rfl, rfl⟩, rfl⟩

theorem ev_rollE (lt : LT tbl) {σ : Hp} {a b c r : Nat} {cells L : List PV} (g : G σ a b c r cells L) {m : Int} (hm : 0 < m) (hm' : m ≤ 1000) (hr : r + 1 ≤ 100000) : ∃ (i : Int) (σ' : Hp), 0 ≤ i ∧ i < m ∧ G σ' a b c (r + 1) cells L ∧ KeepG a b σ σ' ∧
    ∀ (ρ : Loc) (e : PE), ρ "tray" = some (.obj a) → ev (callN tbl w (n + 1)) Option.none e ρ σ = .ok (.int m) σ → ev (callN tbl w (n + 1)) Option.none (.call "_law_roll" (.acons (.loc "tray") (.acons e .anil))) ρ σ = .ok (.int i) σ' := by
  obtain ⟨i, σ', e, h1, h2, h3, h4⟩ := roll_ok (w := w) (n := n) lt g hm hm' hr
  exact ⟨i, σ', h1, h2, h3, h4, fun ρ x hρ he => (ev_call (ev_acons (ev_loc hρ) (ev_acons he ev_anil))).trans e⟩
theorem ev_laidE (lt : LT tbl) {σ : Hp} {a b c r : Nat} {cells L : List PV} (g : G σ a b c r cells L) (kd : String) (v : PV) (hl : L.length + 1 ≤ 90000) : ∃ s σ', s = 4 * (L.length : Int) + 9 ∧ G σ' a b c r cells (L ++ [tok kd v s]) ∧ KeepG a b σ σ' ∧
    ∀ (ρ : Loc) (e : PE), ρ "rows" = some (.obj b) → ev (callN tbl w (n + 1)) Option.none e ρ σ = .ok v σ → ev (callN tbl w (n + 1)) Option.none (.call "_law_laid" (.acons (.loc "rows") (.acons (.str kd) (.acons e .anil)))) ρ σ = .ok (.int s) σ' := by
  obtain ⟨s, σ', e, h1, h3, h4⟩ := laid_ok (w := w) (n := n) lt g kd v hl
  exact ⟨s, σ', h1, h3, h4, fun ρ x hρ he => (ev_call (ev_acons (ev_loc hρ) (ev_acons rfl (ev_acons he ev_anil)))).trans e⟩

theorem ev_eqInt {cf : CF} {ρ : Loc} {σ : Hp} {x : String} {i j : Int} (h : ρ x = some (.int i)) : ev cf Option.none (.cmp .eq (.loc x) (.int j)) ρ σ = .ok (.bool (i == j)) σ := (ev_cmp (ev_loc h) rfl).trans (cmp_eq rfl)

theorem part_ok (mt : MT tbl) (lt : LT tbl) (hw : 20 ≤ w) (deep : Nat) (hdp : deep ≤ 100) {nn R S N need F : Nat} (hc : 0 < deep → ChosenSpec tbl w (deep - 1) nn R S N need F) (hnn : 3 ≤ nn) (hN : 4 ≤ N) (hR : 1 ≤ R) (hS : 2 ≤ S) : PartSpec tbl w deep (nn + 1) (R + 1) (S + 1) (N + 4) (need + 1) (F + 3) := by
  intro n hn σ a b c r cells L g hr hs
  obtain ⟨n, rfl⟩ : ∃ m, n = m + 2 := ⟨n - 2, by omega⟩
  have hm : ev (callN tbl w (n + 1)) Option.none (.ite (.cmp .gt (.loc "deep") (.int 0)) (.int 5) (.int 4)) ((((Loc.empty.set "deep" (.int (deep : Int))).set "rows" (.obj b)).set "tray" (.obj a))) σ = .ok (.int (if 0 < deep then 5 else 4)) σ := by
    by_cases h : 0 < deep
    · exact (ev_ite_t ((ev_cmp (ev_loc rfl) rfl).trans ((cmp_gt _ _).trans (by rw [decide_eq_true (by omega)])))).trans (by rw [if_pos h]; rfl)
    · exact (ev_ite_f ((ev_cmp (ev_loc rfl) rfl).trans ((cmp_gt _ _).trans (by rw [decide_eq_false (by omega)])))).trans (by rw [if_neg h]; rfl)
  obtain ⟨way, σ₁, w0, w1, g₁, k₁, e₁⟩ := ev_rollE (w := w) (n := n) lt g (m := if 0 < deep then 5 else 4) (by split <;> omega) (by split <;> omega) (by omega)
  have hgo : ∀ {v : PV} {ρ' : Loc} {σ' : Hp}, ex (callN tbl w (n + 1)) Option.none w f_law_part.body.next ((((Loc.empty.set "deep" (.int (deep : Int))).set "rows" (.obj b)).set "tray" (.obj a)).set "way" (.int way)) σ₁ = .ok (.ret v, ρ') σ' → callN tbl w (n + 2) "_law_part" [.obj a, .obj b, .int (deep : Int)] σ = .ok v σ' :=
    fun h => call_ok (lt "_law_part" f_law_part rfl) rfl ((ex_asg (e₁ _ _ rfl hm)).trans h)
  clear e₁ hm
  have hways : way = 0 ∨ way = 1 ∨ way = 2 ∨ way = 3 ∨ (way = 4 ∧ 0 < deep) := by
    by_cases h : 0 < deep
    · rw [if_pos h] at w1; omega
    · rw [if_neg h] at w1; omega
  rcases hways with rfl | rfl | rfl | rfl | ⟨rfl, hdeep⟩
  · obtain ⟨i, σ₂, i0, i1, g₂, k₂, e₂⟩ := ev_rollE (w := w) (n := n) lt g₁ (m := 7) (by decide) (by decide) (by omega)
    obtain ⟨s, σ₃, hs', g₃, k₃, e₃⟩ := ev_laidE (w := w) (n := n) lt g₂ "int" (.int i) (by omega)
    refine ⟨_, _, σ₃, _, ?_, g₃, by omega, by simp, (k₁.trans k₂).trans k₃, (made_int mt hw i s).mono (by omega) (by omega) (by omega)⟩
    exact hgo (ex_if_ret ((ev_eqInt rfl).trans rfl) ((ex_asg (e₂ _ _ rfl rfl)).trans (ex_ret (ev_tup (ev_acons rfl (ev_acons (e₃ _ _ rfl (ev_loc rfl)) (ev_acons (ev_loc rfl) ev_anil))) (by show 3 ≤ 100000; decide)))))
  · obtain ⟨i, σ₂, i0, i1, g₂, k₂, e₂⟩ := ev_rollE (w := w) (n := n) lt g₁ (m := 3) (by decide) (by decide) (by omega)
    obtain ⟨y, hy⟩ : ∃ y, ∀ σ, subV (.str "xyz") (.int i) σ = .ok (.str y) σ := by
      have : i = 0 ∨ i = 1 ∨ i = 2 := by omega
      rcases this with rfl | rfl | rfl <;> exact ⟨_, fun σ => rfl⟩
    obtain ⟨s, σ₃, hs', g₃, k₃, e₃⟩ := ev_laidE (w := w) (n := n) lt g₂ "name" (.str y) (by omega)
    refine ⟨_, _, σ₃, _, ?_, g₃, by omega, by simp, (k₁.trans k₂).trans k₃, (made_name mt hw y s).mono (by omega) (by omega) (by omega)⟩
    exact hgo ((ex_skip ((ev_eqInt rfl).trans rfl)).trans (ex_if_ret ((ev_eqInt rfl).trans rfl) ((ex_asg ((ev_sub rfl (e₂ _ _ rfl rfl)).trans (hy _))).trans (ex_ret (ev_tup (ev_acons rfl (ev_acons (e₃ _ _ rfl (ev_loc rfl)) (ev_acons (ev_loc rfl) ev_anil))) (by show 3 ≤ 100000; decide))))))
  · obtain ⟨i, σ₂, i0, i1, g₂, k₂, e₂⟩ := ev_rollE (w := w) (n := n) lt g₁ (m := 2) (by decide) (by decide) (by omega)
    obtain ⟨y, hyy, hy⟩ : ∃ y, (y = "true" ∨ y = "false") ∧ ∀ σ, subV (.tup [.str "false", .str "true"]) (.int i) σ = .ok (.str y) σ := by
      have : i = 0 ∨ i = 1 := by omega
      rcases this with rfl | rfl
      · exact ⟨"false", .inr rfl, fun σ => rfl⟩
      · exact ⟨"true", .inl rfl, fun σ => rfl⟩
    obtain ⟨s, σ₃, hs', g₃, k₃, e₃⟩ := ev_laidE (w := w) (n := n) lt g₂ "word" (.str y) (by omega)
    refine ⟨_, _, σ₃, _, ?_, g₃, by omega, by simp, (k₁.trans k₂).trans k₃, (made_bool mt hw hyy s).mono (by omega) (by omega) (by omega)⟩
    exact hgo ((ex_skip ((ev_eqInt rfl).trans rfl)).trans ((ex_skip ((ev_eqInt rfl).trans rfl)).trans (ex_if_ret ((ev_eqInt rfl).trans rfl) ((ex_asg ((ev_sub (ev_tup (ev_acons rfl (ev_acons rfl ev_anil)) (by show 2 ≤ 100000; decide)) (e₂ _ _ rfl rfl)).trans (hy _))).trans (ex_ret (ev_tup (ev_acons rfl (ev_acons (e₃ _ _ rfl (ev_loc rfl)) (ev_acons ((ev_cmp (ev_loc rfl) rfl).trans (cmp_eq (eqV_str ..))) ev_anil))) (by show 3 ≤ 100000; decide)))))))
  · obtain ⟨s1, σ₂, hs1, g₂, k₂, e₂⟩ := ev_laidE (w := w) (n := n) lt g₁ "name" (.str "u") (by omega)
    obtain ⟨s2, σ₃, hs2, g₃, k₃, e₃⟩ := ev_laidE (w := w) (n := n) lt g₂ "sign" (.str "+") (by simp; omega)
    obtain ⟨s3, σ₄, hs3, g₄, k₄, e₄⟩ := ev_laidE (w := w) (n := n) lt g₃ "int" (.int 1) (by simp; omega)
    refine ⟨_, [tok "name" (.str "u") s1, tok "sign" (.str "+") s2, tok "int" (.int 1) s3], σ₄, _, ?_, by simpa using g₄, by omega, by simp; omega, ((k₁.trans k₂).trans k₃).trans k₄, (made_sum mt hw "u" 1 s1 s2 s3).mono (by omega) (by omega) (by omega)⟩
    exact hgo ((ex_skip ((ev_eqInt rfl).trans rfl)).trans ((ex_skip ((ev_eqInt rfl).trans rfl)).trans ((ex_skip ((ev_eqInt rfl).trans rfl)).trans (ex_if_ret ((ev_eqInt rfl).trans rfl) ((ex_asg (ev_tup (ev_acons rfl (ev_acons (e₂ _ _ rfl rfl) (ev_acons rfl ev_anil))) (by show 3 ≤ 100000; decide))).trans ((ex_asg (e₃ _ _ rfl rfl)).trans
      (ex_ret (ev_tup (ev_acons rfl (ev_acons (ev_loc rfl) (ev_acons rfl (ev_acons (ev_loc rfl) (ev_acons (ev_tup (ev_acons rfl (ev_acons (e₄ _ _ rfl rfl) (ev_acons rfl ev_anil))) (by show 3 ≤ 100000; decide)) ev_anil))))) (by show 5 ≤ 100000; decide)))))))))
  · obtain ⟨s1, σ₂, hs1, g₂, k₂, e₂⟩ := ev_laidE (w := w) (n := n) lt g₁ "word" (.str "if") (by omega)
    have hq : (σ₂ ++ [PO.list []])[σ₂.length]? = some (.list []) := getElem_snoc ..
    obtain ⟨P, y, o, se, σ₃, r₃, offs, e₃, g₃, hr₃, hs₃, hle, hk, hqq, cm, _⟩ := hc hdeep (n + 1) (by omega) (σ₂ ++ [.list []]) a b c σ₂.length _ cells _ [] s1 (g₂.grow _) hq
      ⟨by have := g₂.lta; omega, by have := g₂.ltb; omega, by have := g₂.ltc; omega⟩ (by omega) (by simp; omega) (by simp)
    refine ⟨choV s1 P y o, wd "if" s1 :: choT P y o se, σ₃, r₃, ?_, by simpa using g₃, by omega, by simp; omega, (k₁.trans k₂).trans ⟨by simp at hle; omega, fun i hi p q => (hk i (by simp; omega) p q (by omega)).trans (List.getElem?_append_left hi)⟩, ?_⟩
    · exact hgo ((ex_skip ((ev_eqInt rfl).trans rfl)).trans ((ex_skip ((ev_eqInt rfl).trans rfl)).trans ((ex_skip ((ev_eqInt rfl).trans rfl)).trans ((ex_skip ((ev_eqInt rfl).trans rfl)).trans ((ex_asg (e₂ _ _ rfl rfl)).trans (ex_ret ((ev_call (ev_acons (ev_loc rfl) (ev_acons (ev_loc rfl) (ev_acons (ev_loc rfl) (ev_acons (v := .int ((deep - 1 : Nat) : Int)) (σ₁ := σ₂)
        ((ev_bin (ev_loc rfl) rfl).trans (by show okInt ((deep : Int) - 1) σ₂ = _; rw [okInt_ok (by omega)]; congr 2; omega)) (ev_acons (ev_listE ev_anil (Nat.zero_le _)) ev_anil)))))).trans e₃)))))))
    · exact ⟨part_if mt hw hN cm.okP cm.ok cm.oko cm.few, ⟨_, _, _, _, rfl, rfl⟩, cm.flat⟩

/-- the whole of it: a choice two levels deep -/
theorem chosen2 (mt : MT tbl) (lt : LT tbl) (hw : 20 ≤ w) : ChosenSpec tbl w 2 15 856 1541 16 3 9 := by
  have none' : ∀ {X : Prop}, 0 < 0 → X := fun h => absurd h (by decide)
  have p0 : PartSpec tbl w 0 4 2 3 8 1 3 := part_ok mt lt hw 0 (by decide) (nn := 3) (R := 1) (S := 2) (N := 4) (need := 0) (F := 0) none' (by decide) (by decide) (by decide) (by decide)
  have c0 := chosen_ok lt p0 (by decide)
  have p1 := part_ok mt lt hw 1 (by decide) (fun _ => c0) (by decide) (by decide) (by decide) (by decide)
  have c1 := chosen_ok lt p1 (by decide)
  have p2 := part_ok mt lt hw 2 (by decide) (fun _ => c1) (by decide) (by decide) (by decide) (by decide)
  exact chosen_ok lt p2 (by decide)
end
end L1
end Mine
end
section
/-! Law 1: choices within one another. -/
set_option maxRecDepth 100000
set_option linter.unusedVariables false
set_option linter.unusedSimpArgs false
namespace Mine
theorem loopL_inv {x : String} {body : SR} (I : Nat → Loc → Hp → Prop) : ∀ (l : List PV) (i : Nat) (ρ : Loc) (σ : Hp),
    (∀ j v ρ σ, l[j]? = some v → I (i + j) ρ σ → ∃ ρ' σ', body (ρ.set x v) σ = .ok (.next, ρ') σ' ∧ I (i + j + 1) ρ' σ') → I i ρ σ → ∃ ρ' σ', loopL x body l ρ σ = .ok (.next, ρ') σ' ∧ I (i + l.length) ρ' σ'
  | [], i, ρ, σ, h, h0 => ⟨ρ, σ, rfl, h0⟩
  | v :: l, i, ρ, σ, h, h0 => by
    obtain ⟨ρ₁, σ₁, e₁, h₁⟩ := h 0 v ρ σ rfl h0
    obtain ⟨ρ₂, σ₂, e₂, h₂⟩ := loopL_inv I l (i + 1) ρ₁ σ₁ (fun j u ρ σ hj hI => by
      obtain ⟨ρ', σ', e, h'⟩ := h (j + 1) u ρ σ (by simpa using hj) (by rw [show i + (j + 1) = i + 1 + j from by omega]; exact hI)
      exact ⟨ρ', σ', e, by rw [show i + 1 + j + 1 = i + (j + 1) + 1 from by omega]; exact h'⟩) h₁
    refine ⟨ρ₂, σ₂, ?_, by rw [List.length_cons, show i + (l.length + 1) = i + 1 + l.length from by omega]; exact h₂⟩
    exact (loopL_next e₁).trans e₂
namespace L1
section
variable {tbl : String → Option FnDef} {w n : Nat}
noncomputable def sp (k : Nat) : Int := 4 * (k : Int) + 9
noncomputable def tokA (m i : Nat) : List PV := [wd "true" (sp (3 * i)), wd "then" (sp (3 * i + 1))] ++ (if i + 1 < m then [wd "if" (sp (3 * i + 2))] else [])
noncomputable def rowsA (m : Nat) : Nat → List PV
  | 0 => []
  | i + 1 => rowsA m i ++ tokA m i
noncomputable def spA (m : Nat) : Nat → List PV
  | 0 => [.int 1]
  | i + 1 => spA m i ++ (if i + 1 < m then [.int (sp (3 * i + 2))] else [])
noncomputable def rowsB (m : Nat) : Nat → List PV
  | 0 => []
  | i + 1 => rowsB m i ++ [wd "endif" (sp (3 * m + i))]
theorem lenA (m : Nat) : ∀ i, i < m → (rowsA m i).length = 3 * i
  | 0, _ => rfl
  | i + 1, h => by
    unfold rowsA tokA
    rw [List.length_append, lenA m i (by omega), if_pos h]
    simp; omega
theorem lenA' (m : Nat) (h : 0 < m) : (rowsA m m).length = 3 * m - 1 := by
  obtain ⟨i, rfl⟩ : ∃ i, m = i + 1 := ⟨m - 1, by omega⟩
  unfold rowsA tokA
  rw [List.length_append, lenA _ i (by omega), if_neg (by omega)]
  simp; omega
theorem lenS (m : Nat) : ∀ i, (spA m i).length ≤ i + 1
  | 0 => by simp [spA]
  | i + 1 => by
    unfold spA
    rw [List.length_append]
    have := lenS m i
    split <;> simp <;> omega
theorem lenB (m : Nat) : ∀ i, (rowsB m i).length = i
  | 0 => rfl
  | i + 1 => by unfold rowsB; rw [List.length_append, lenB m i]; rfl

noncomputable def wyN (m j : Nat) (X : List PV) (v : PV) : Wy := ⟨[wd "true" (sp (3 * (m - j - 1)))], .tup [.str "bool", .int (sp (3 * (m - j - 1))), .bool true], sp (3 * (m - j - 1) + 1), X, v⟩
noncomputable def spotN (m j : Nat) : Int := if j + 1 = m then 1 else sp (3 * (m - j - 1) - 1)
noncomputable def xn (m : Nat) : Nat → List PV × PV
  | 0 => ([tok "name" (.str "x") (sp (3 * m - 1))], .tup [.str "name", .int (sp (3 * m - 1)), .str "x"])
  | j + 1 => (wd "if" (spotN m j) :: choT [] (wyN m j (xn m j).1 (xn m j).2) Option.none (sp (3 * m + j)), choV (spotN m j) [] (wyN m j (xn m j).1 (xn m j).2) Option.none)
/-- the tokens, without the end -/
noncomputable def rowsN (m : Nat) : List PV := rowsA m m ++ [tok "name" (.str "x") (sp (3 * m - 1))] ++ rowsB m m
theorem rowsN_eq {m : Nat} (h0 : 0 < m) (h : m ≤ 7) : rowsN m = (xn m m).1.tail := by
  have : m = 1 ∨ m = 2 ∨ m = 3 ∨ m = 4 ∨ m = 5 ∨ m = 6 ∨ m = 7 := by omega
  rcases this with rfl | rfl | rfl | rfl | rfl | rfl | rfl <;> rfl
theorem rowsN_at {m l : Nat} (h : m ≤ 7) (hl : l < m) (e : List PV) : (rowsN m ++ e)[3 * l]? = some (wd "true" (sp (3 * l))) := by
  have hm : m = 1 ∨ m = 2 ∨ m = 3 ∨ m = 4 ∨ m = 5 ∨ m = 6 ∨ m = 7 := by omega
  have hl' : l = 0 ∨ l = 1 ∨ l = 2 ∨ l = 3 ∨ l = 4 ∨ l = 5 ∨ l = 6 := by omega
  rcases hm with rfl | rfl | rfl | rfl | rfl | rfl | rfl <;> rcases hl' with rfl | rfl | rfl | rfl | rfl | rfl | rfl <;> first | rfl | omega
theorem spA_at {m l : Nat} (h : m ≤ 7) (hl : l < m) : (spA m m)[l]? = some (.int (spotN m (m - 1 - l))) := by
  have hm : m = 1 ∨ m = 2 ∨ m = 3 ∨ m = 4 ∨ m = 5 ∨ m = 6 ∨ m = 7 := by omega
  have hl' : l = 0 ∨ l = 1 ∨ l = 2 ∨ l = 3 ∨ l = 4 ∨ l = 5 ∨ l = 6 := by omega
  rcases hm with rfl | rfl | rfl | rfl | rfl | rfl | rfl <;> rcases hl' with rfl | rfl | rfl | rfl | rfl | rfl | rfl <;> first | rfl | omega

structure N1 (σ0 σ : Hp) (ρ : Loc) (a c r : Nat) (cells L S : List PV) (m : Nat) : Prop where
  g : G σ a σ0.length c r cells L
  s : σ[σ0.length + 1]? = some (.list S)
  kp : ∀ j, j < σ0.length → j ≠ a → σ[j]? = σ0[j]?
  la : a < σ0.length ∧ c < σ0.length
  many : ρ "many" = some (.int (m : Int))
  rows : ρ "rows" = some (.obj σ0.length)
  spots : ρ "spots" = some (.obj (σ0.length + 1))
theorem N1.on {σ0 σ σ' : Hp} {ρ : Loc} {a c r m : Nat} {cells L L' S : List PV} (h : N1 σ0 σ ρ a c r cells L S m) (g : G σ' a σ0.length c r cells L') (k : KeepG a σ0.length σ σ') : N1 σ0 σ' ρ a c r cells L' S m :=
  ⟨g, k.at_ h.s (by have := h.la; omega) (by omega), fun j hj ha => (k.same j (by have := (List.getElem?_eq_some_iff.mp h.s).1; omega) ha (by omega)).trans (h.kp j hj ha), h.la, h.many, h.rows, h.spots⟩
theorem N1.set {σ0 σ : Hp} {ρ : Loc} {a c r m : Nat} {cells L S : List PV} (h : N1 σ0 σ ρ a c r cells L S m) {x : String} (v : PV) (hx : x ≠ "many" ∧ x ≠ "rows" ∧ x ≠ "spots") : N1 σ0 σ (ρ.set x v) a c r cells L S m :=
  have s : ∀ y, x ≠ y → (ρ.set x v) y = ρ y := fun y hy => if_neg (Ne.symm hy)
  ⟨h.g, h.s, h.kp, h.la, (s _ hx.1).trans h.many, (s _ hx.2.1).trans h.rows, (s _ hx.2.2).trans h.spots⟩
theorem N1.push {σ0 σ : Hp} {ρ : Loc} {a c r m : Nat} {cells L S : List PV} (h : N1 σ0 σ ρ a c r cells L S m) (v : PV) : N1 σ0 (σ.set (σ0.length + 1) (.list (S ++ [v]))) ρ a c r cells L (S ++ [v]) m :=
  ⟨h.g.setOther (by have := h.la; omega) (by omega) (by have := h.la; omega) _, by rw [List.getElem?_set_self (List.getElem?_eq_some_iff.mp h.s).1], fun j hj ha => by rw [List.getElem?_set_ne (by omega)]; exact h.kp j hj ha, h.la, h.many, h.rows, h.spots⟩
theorem N1.listS {σ0 σ : Hp} {ρ : Loc} {a c r m : Nat} {cells L S : List PV} (h : N1 σ0 σ ρ a c r cells L S m) : listAt σ (σ0.length + 1) = some S := listAt_of h.s

noncomputable abbrev nestBody1 (cf : CF) (w : Nat) : SR := ex cf Option.none w
  (.expr (.call "_law_laid" (.acons (.loc "rows") (.acons (.str "word") (.acons (.str "true") .anil))))
      (.expr (.call "_law_laid" (.acons (.loc "rows") (.acons (.str "word") (.acons (.str "then") .anil))))
      (.ifS (.cmp .lt (.loc "lap") (.bin .sub (.loc "many") (.int 1)))
        (.expr (.append (.loc "spots") (.call "_law_laid" (.acons (.loc "rows") (.acons (.str "word") (.acons (.str "if") .anil)))))
        .nil)
        .nil
      .nil)))

theorem nest1 (lt : LT tbl) {σ0 σ : Hp} {ρ : Loc} {a c r m i : Nat} {cells : List PV} (h : N1 σ0 σ ρ a c r cells (rowsA m i) (spA m i) m) (hi : i < m) (hm : m ≤ 7) :
    ∃ ρ' σ', nestBody1 (callN tbl w (n + 1)) w (ρ.set "lap" (.int (i : Int))) σ = .ok (.next, ρ') σ' ∧ N1 σ0 σ' ρ' a c r cells (rowsA m (i + 1)) (spA m (i + 1)) m := by
  have hl := lenA m i hi
  have h1 := h.set (x := "lap") (.int (i : Int)) (by decide)
  obtain ⟨s1, σ₁, q1, g1, k1, e1⟩ := ev_laidE (w := w) (n := n) lt h1.g "word" (.str "true") (by omega)
  rw [hl] at q1
  have h2 := h1.on g1 k1
  obtain ⟨s2, σ₂, q2, g2, k2, e2⟩ := ev_laidE (w := w) (n := n) lt h2.g "word" (.str "then") (by simp; omega)
  rw [List.length_append, hl] at q2
  have h3 := h2.on g2 k2
  have q1' : s1 = sp (3 * i) := q1
  have q2' : s2 = sp (3 * i + 1) := by rw [q2]; rfl
  have hc : ∀ ρ : Loc, ρ "lap" = some (.int (i : Int)) → ρ "many" = some (.int (m : Int)) → ev (callN tbl w (n + 1)) Option.none (.cmp .lt (.loc "lap") (.bin .sub (.loc "many") (.int 1))) ρ σ₂ = .ok (.bool (decide (i + 1 < m))) σ₂ := fun ρ hρ hρ' => by
    refine (ev_cmp (ev_loc hρ) ((ev_bin (ev_loc hρ') rfl).trans (sub_int (by omega)))).trans ((cmp_lt _ _).trans (congrArg (fun b => Res.ok (PV.bool b) σ₂) (decide_eq_decide.mpr ?_)))
    exact ⟨fun _ => by omega, fun _ => by omega⟩
  show ∃ ρ' σ', ex _ _ _ _ _ _ = _ ∧ _
  rw [ex_expr (e1 _ _ h1.rows rfl), ex_expr (e2 _ _ h2.rows rfl)]
  by_cases hlt : i + 1 < m
  · obtain ⟨s3, σ₃, q3, g3, k3, e3⟩ := ev_laidE (w := w) (n := n) lt h3.g "word" (.str "if") (by simp; omega)
    rw [List.length_append, List.length_append, hl] at q3
    have q3' : s3 = sp (3 * i + 2) := by rw [q3]; rfl
    have h4 := (h3.on g3 k3).push (.int s3)
    refine ⟨ρ.set "lap" (.int (i : Int)), σ₃.set (σ0.length + 1) (.list (spA m i ++ [.int s3])), ?_, ?_⟩
    · rw [ex_if_true (testR_eq ((hc _ rfl h1.many).trans (by rw [decide_eq_true hlt])))]
      rw [thenK_next (by
        rw [ex_expr (ev_append h3.spots h3.listS (e3 _ _ h3.rows rfl) (h3.on g3 k3).listS (by have := lenS m i; omega))]
        rfl)]
      rfl
    · have ea : rowsA m (i + 1) = rowsA m i ++ [wd "true" s1] ++ [wd "then" s2] ++ [wd "if" s3] := by
        show rowsA m i ++ tokA m i = _
        unfold tokA; rw [if_pos hlt, q1', q2', q3']; simp
      have es : spA m (i + 1) = spA m i ++ [.int s3] := by
        show spA m i ++ _ = _
        rw [if_pos hlt, q3']
      rw [ea, es]
      exact h4
  · refine ⟨ρ.set "lap" (.int (i : Int)), σ₂, ?_, ?_⟩
    · rw [ex_if_false (testR_eq ((hc _ rfl h1.many).trans (by rw [decide_eq_false hlt])))]
      rfl
    · have ea : rowsA m (i + 1) = rowsA m i ++ [wd "true" s1] ++ [wd "then" s2] := by
        show rowsA m i ++ tokA m i = _
        unfold tokA; rw [if_neg hlt, q1', q2']; simp
      have es : spA m (i + 1) = spA m i := by
        show spA m i ++ _ = _
        rw [if_neg hlt, List.append_nil]
      rw [ea, es]
      exact h3

theorem nest2 (lt : LT tbl) {σ0 σ : Hp} {ρ : Loc} {a c r m i : Nat} {cells S L0 : List PV} (h : N1 σ0 σ ρ a c r cells (L0 ++ rowsB m i) S m) (hL : L0.length = 3 * m) (hi : i < m) (hm : m ≤ 7) {nd : PV} (hnd : ρ "node" = some nd) :
    ∃ ρ' σ', ex (callN tbl w (n + 1)) Option.none w (.expr (.call "_law_laid" (.acons (.loc "rows") (.acons (.str "word") (.acons (.str "endif") .anil)))) .nil) (ρ.set "lap" (.int (i : Int))) σ = .ok (.next, ρ') σ' ∧ N1 σ0 σ' ρ' a c r cells (L0 ++ rowsB m (i + 1)) S m ∧ ρ' "node" = some nd := by
  have h1 := h.set (x := "lap") (.int (i : Int)) (by decide)
  obtain ⟨s1, σ₁, q1, g1, k1, e1⟩ := ev_laidE (w := w) (n := n) lt h1.g "word" (.str "endif") (by rw [List.length_append, lenB]; omega)
  rw [List.length_append, lenB, hL] at q1
  have q1' : s1 = sp (3 * m + i) := q1
  have h2 := h1.on g1 k1
  refine ⟨ρ.set "lap" (.int (i : Int)), σ₁, by rw [ex_expr (e1 _ _ h1.rows rfl)]; rfl, ?_, hnd⟩
  show N1 _ _ _ _ _ _ _ (L0 ++ (rowsB m i ++ [wd "endif" (sp (3 * m + i))])) _ _
  rw [← q1', ← List.append_assoc]
  exact h2

theorem nest3 {σ0 σ : Hp} {ρ : Loc} {a c r m j : Nat} {cells : List PV} (h : N1 σ0 σ ρ a c r cells (rowsN m) (spA m m) m) (hm0 : 0 < m) (hm : m ≤ 7) (hj : j < m) (hnd : ρ "node" = some (xn m j).2) {cf : CF} :
    ∃ ρ', ex cf Option.none w (.asg "node" (.tup (.acons (.str "if") (.acons (.sub (.loc "spots") (.loc "lap")) (.acons (.tup (.acons (.tup (.acons (.tup (.acons (.str "bool") (.acons (.sub (.sub (.loc "rows") (.bin .mul (.int 3) (.loc "lap"))) (.int 2)) (.acons (.bool true) .anil)))) (.acons (.loc "node") .anil))) .anil)) (.acons (.tup (.acons (.str "bool") (.acons (.sub (.loc "spots") (.loc "lap")) (.acons (.bool true) .anil)))) .anil))))) .nil)
      (ρ.set "lap" (.int ((m - 1 - j : Nat) : Int))) σ = .ok (.next, ρ') σ ∧ N1 σ0 σ ρ' a c r cells (rowsN m) (spA m m) m ∧ ρ' "node" = some (xn m (j + 1)).2 := by
  have h1 := h.set (x := "lap") (.int ((m - 1 - j : Nat) : Int)) (by decide)
  have hs : ev cf Option.none (.sub (.loc "spots") (.loc "lap")) (ρ.set "lap" (.int ((m - 1 - j : Nat) : Int))) σ = .ok (.int (spotN m j)) σ := by
    have := spA_at hm (l := m - 1 - j) (by omega)
    rw [show m - 1 - (m - 1 - j) = j from by omega] at this
    exact (ev_sub (ev_loc h1.spots) (ev_loc rfl)).trans ((subV_list (seqAt_of h.s)).trans (getL_nat this (by have := lenS m m; omega)))
  have hr : ev cf Option.none (.sub (.sub (.loc "rows") (.bin .mul (.int 3) (.loc "lap"))) (.int 2)) (ρ.set "lap" (.int ((m - 1 - j : Nat) : Int))) σ = .ok (.int (sp (3 * (m - j - 1)))) σ := by
    have := rowsN_at hm (l := m - 1 - j) (by omega) []
    rw [List.append_nil] at this
    have hx : ev cf Option.none (.bin .mul (.int 3) (.loc "lap")) (ρ.set "lap" (.int ((m - 1 - j : Nat) : Int))) σ = .ok (.int ((3 * (m - 1 - j) : Nat) : Int)) σ :=
      (ev_bin rfl (ev_loc rfl)).trans ((mul_int (by omega) (by omega)).trans (by push_cast; rfl))
    rw [show m - j - 1 = m - 1 - j from by omega]
    exact (ev_sub ((ev_sub (ev_loc h1.rows) hx).trans ((subV_list h.g.seq).trans (getL_nat this (by have := h.g.Lb; omega)))) rfl).trans (sub_t2 (a := .str "word") (b := .str "true"))
  refine ⟨_, ?_, h1.set (x := "node") _ (by decide), rfl⟩
  rw [ex_asg (ev_tup (ev_acons rfl (ev_acons hs (ev_acons (ev_tup (ev_acons (ev_tup (ev_acons (ev_tup (ev_acons rfl (ev_acons hr (ev_acons rfl ev_anil))) (by simp)) (ev_acons (ev_loc (x := "node") hnd) ev_anil)) (by simp)) ev_anil) (by simp)) (ev_acons (ev_tup (ev_acons rfl (ev_acons hs (ev_acons rfl ev_anil))) (by simp)) ev_anil)))) (by simp))]
  rfl

theorem nested_ok (lt : LT tbl) {σ : Hp} {a b c r m : Nat} {cells L : List PV} (g : G σ a b c r cells L) (h0 : 0 < m) (hm : m ≤ 7) :
    ∃ σ' s, callN tbl w (n + 2) "_law_nested" [.int (m : Int)] σ = .ok (.tup [.obj σ.length, (xn m m).2]) σ' ∧ σ'[σ.length]? = some (.list (rowsN m ++ [tok "end" (.str "") s])) ∧ σ.length ≤ σ'.length ∧ ∀ j, j < σ.length → j ≠ a → σ'[j]? = σ[j]? := by
  have hs0 : (σ ++ [PO.list []] ++ [PO.list [.int 1]])[σ.length]? = some (.list []) := by rw [List.getElem?_append_left (by simp), getElem_snoc]
  have hs1 : (σ ++ [PO.list []] ++ [PO.list [.int 1]])[σ.length + 1]? = some (.list [.int 1]) := by rw [show σ.length + 1 = (σ ++ [PO.list []]).length from by simp, getElem_snoc]
  have hold : ∀ j, j < σ.length → (σ ++ [PO.list []] ++ [PO.list [.int 1]])[j]? = σ[j]? := fun j hj => by rw [List.getElem?_append_left (by simp; omega), List.getElem?_append_left hj]
  have i0 : N1 σ (σ ++ [PO.list []] ++ [PO.list [.int 1]]) ((Loc.empty.set "many" (.int (m : Int))).setAll ["rows", "spots"] [.obj σ.length, .obj (σ.length + 1)]) a c r cells (rowsA m 0) (spA m 0) m :=
    ⟨⟨(hold _ g.lta).trans g.tray, (hold _ g.ltc).trans g.cel, hs0, g.okc, g.small, g.rb, by simp [rowsA]⟩, hs1, fun j hj _ => hold j hj, ⟨g.lta, g.ltc⟩, rfl, rfl, rfl⟩
  have rl : ∀ k : Nat, rangeOf [.int (m : Int)] = some ((List.range m).map fun (k : Nat) => (k : Int)) := fun _ => rangeOf_nat m (by omega)
  have at_ : ∀ (j : Nat) (v : PV), (((List.range m).map fun (k : Nat) => (k : Int)).map PV.int)[j]? = some v → v = .int (j : Int) ∧ j < m := fun j v h => by
    simp only [List.map_map, List.getElem?_map, List.getElem?_range, Option.map_eq_some_iff] at h
    obtain ⟨x, hx, rfl⟩ := h
    rw [List.getElem?_eq_some_iff] at hx
    obtain ⟨hj, hx⟩ := hx
    rw [List.getElem_range] at hx
    subst hx
    exact ⟨rfl, by simpa using hj⟩
  have ll : (((List.range m).map fun (k : Nat) => (k : Int)).map PV.int).length = m := by simp
  obtain ⟨ρ₁, σ₁, e₁, i₁⟩ := loopL_inv (x := "lap") (body := nestBody1 (callN tbl w (n + 1)) w) (fun i ρ σ' => N1 σ σ' ρ a c r cells (rowsA m i) (spA m i) m) _ 0 _ _ (fun j v ρ σ' hj hI => by
    obtain ⟨rfl, hlt⟩ := at_ j v hj
    rw [Nat.zero_add] at hI ⊢
    exact nest1 lt hI hlt hm) i0
  rw [ll, Nat.zero_add] at i₁
  obtain ⟨sx, σ₂, q2, g2, k2, e2⟩ := ev_laidE (w := w) (n := n) lt i₁.g "name" (.str "x") (by rw [lenA' m h0]; omega)
  rw [lenA' m h0] at q2
  have q2' : sx = sp (3 * m - 1) := q2
  have i₂ := (i₁.on g2 k2).set (x := "node") (xn m 0).2 (by decide)
  have hL : (rowsA m m ++ [tok "name" (.str "x") sx]).length = 3 * m := by rw [List.length_append, lenA' m h0]; simp; omega
  obtain ⟨ρ₃, σ₃, e₃, i₃, n₃⟩ := loopL_inv (x := "lap") (body := ex (callN tbl w (n + 1)) Option.none w (.expr (.call "_law_laid" (.acons (.loc "rows") (.acons (.str "word") (.acons (.str "endif") .anil)))) .nil))
    (fun i ρ σ' => N1 σ σ' ρ a c r cells ((rowsA m m ++ [tok "name" (.str "x") sx]) ++ rowsB m i) (spA m m) m ∧ ρ "node" = some (xn m 0).2) _ 0 _ _ (fun j v ρ σ' hj hI => by
    obtain ⟨rfl, hlt⟩ := at_ j v hj
    rw [Nat.zero_add] at hI ⊢
    exact nest2 lt hI.1 hL hlt hm hI.2) ⟨by show N1 _ _ _ _ _ _ _ (_ ++ []) _ _; rw [List.append_nil]; exact i₂, rfl⟩
  rw [ll, Nat.zero_add] at i₃
  rw [q2'] at i₃
  have rl2 : rangeOf [.int ((m - 1 : Nat) : Int), .int (-1), .int (-1)] = some ((List.range m).map fun (k : Nat) => ((m - 1 : Nat) : Int) - (k : Int)) := by
    show (if (-1 : Int) = -1 ∧ (-1 : Int) = -1 ∧ (((m - 1 : Nat) : Int)).natAbs ≤ 100000 then _ else _) = _
    rw [if_pos ⟨rfl, rfl, by omega⟩]
    rw [show (((m - 1 : Nat) : Int) + 1).toNat = m from by omega]
  have at2 : ∀ (j : Nat) (v : PV), (((List.range m).map fun (k : Nat) => ((m - 1 : Nat) : Int) - (k : Int)).map PV.int)[j]? = some v → v = .int ((m - 1 - j : Nat) : Int) ∧ j < m := fun j v h => by
    simp only [List.map_map, List.getElem?_map, List.getElem?_range, Option.map_eq_some_iff] at h
    obtain ⟨x, hx, rfl⟩ := h
    rw [List.getElem?_eq_some_iff] at hx
    obtain ⟨hj, hx⟩ := hx
    rw [List.getElem_range] at hx
    subst hx
    have hj' : j < m := by simpa using hj
    refine ⟨?_, hj'⟩
    show PV.int (((m - 1 : Nat) : Int) - (j : Int)) = _
    congr 1
    omega
  have ll2 : (((List.range m).map fun (k : Nat) => ((m - 1 : Nat) : Int) - (k : Int)).map PV.int).length = m := by simp
  obtain ⟨ρ₄, σ₄, e₄, i₄, rfl, n₄⟩ := loopL_inv (x := "lap") (body := ex (callN tbl w (n + 1)) Option.none w (.asg "node" (.tup (.acons (.str "if") (.acons (.sub (.loc "spots") (.loc "lap")) (.acons (.tup (.acons (.tup (.acons (.tup (.acons (.str "bool") (.acons (.sub (.sub (.loc "rows") (.bin .mul (.int 3) (.loc "lap"))) (.int 2)) (.acons (.bool true) .anil)))) (.acons (.loc "node") .anil))) .anil)) (.acons (.tup (.acons (.str "bool") (.acons (.sub (.loc "spots") (.loc "lap")) (.acons (.bool true) .anil)))) .anil))))) .nil))
    (fun i ρ σ' => N1 σ σ' ρ a c r cells (rowsN m) (spA m m) m ∧ σ₃ = σ' ∧ ρ "node" = some (xn m i).2) _ 0 _ _ (fun j v ρ σ' hj hI => by
    obtain ⟨rfl, hlt⟩ := at2 j v hj
    rw [Nat.zero_add] at hI ⊢
    obtain ⟨ρ', e, h', n'⟩ := nest3 hI.1 h0 hm hlt hI.2.2 (cf := callN tbl w (n + 1)) (w := w)
    exact ⟨ρ', σ', e, h', hI.2.1, n'⟩) ⟨i₃, rfl, n₃⟩
  rw [ll2, Nat.zero_add] at n₄
  obtain ⟨se, σ₅, q5, g5, k5, e5⟩ := ev_laidE (w := w) (n := n) lt i₄.g "end" (.str "") (by
    unfold rowsN; rw [List.length_append, lenB, List.length_append, lenA' m h0]; simp; omega)
  have i₅ := i₄.on g5 k5
  refine ⟨σ₅, se, ?_, i₅.g.rows, by have := (List.getElem?_eq_some_iff.mp i₅.s).1; omega, i₅.kp⟩
  refine call_ok (ρ' := ρ₄) (lt "_law_nested" f_law_nested rfl) rfl ((ex_asgT (l := [.obj σ.length, .obj (σ.length + 1)]) (σ₁ := σ ++ [PO.list []] ++ [PO.list [.int 1]]) (ev_tup (ev_acons (ev_listE ev_anil (Nat.zero_le _)) (ev_acons ((ev_listE (ev_acons rfl ev_anil) (by show 1 ≤ 100000; decide)).trans (by rw [List.length_append]; rfl)) ev_anil)) (by show 2 ≤ 100000; decide)) rfl).trans ?_)
  refine (ex_forR (ev_acons (ev_loc i0.many) ev_anil) (rl 0) e₁).trans ?_
  refine (ex_asg (v := (xn m 0).2) (σ₁ := σ₂) ((ev_tup (ev_acons rfl (ev_acons (e2 _ _ i₁.rows rfl) (ev_acons rfl ev_anil))) (by show 3 ≤ 100000; decide)).trans (by rw [q2']; rfl))).trans ?_
  refine (ex_forR (ev_acons (ev_loc i₂.many) ev_anil) (rl 0) e₃).trans ?_
  refine (ex_forR (vs := [.int ((m - 1 : Nat) : Int), .int (-1), .int (-1)]) (ev_acons ((ev_bin (ev_loc i₃.many) rfl).trans ((sub_int (by omega)).trans (congrArg (fun i => Res.ok (PV.int i) σ₃) (by omega)))) (ev_acons rfl (ev_acons rfl ev_anil))) rl2 e₄).trans ?_
  exact (ex_expr (e5 _ _ i₄.rows rfl)).trans (ex_ret (ev_tup (ev_acons (ev_loc i₅.rows) (ev_acons (ev_loc n₄) ev_anil)) (by show 2 ≤ 100000; decide)))
end
end L1
end Mine
end
section
/-! Law 1: what is asked, part by part. -/
set_option maxRecDepth 100000
set_option linter.unusedVariables false
set_option linter.unusedSimpArgs false
namespace Mine.L1
open Mine
section
variable {tbl : String → Option FnDef} {w n : Nat}

theorem heard_ok (lt : LT tbl) {N : Nat} {ts : List PV} {k k' : Nat} {d s : Int} {v : PV} (h : Does tbl w N ".choice" [.int s] ts k d v k') (hn : N + 1 ≤ n) {σ : Hp} {p t : Nat} (st : PSt σ p t ts k d) :
    ∃ σ', callN tbl w n "_law_heard" [.obj p, .int s] σ = .ok v σ' ∧ PSt σ' p t ts k' d ∧ Keep p σ σ' := by
  obtain ⟨n, rfl⟩ : ∃ m, n = m + 1 := ⟨n - 1, by omega⟩
  obtain ⟨σ', e, st', kp⟩ := h n (by omega) σ p t st
  exact ⟨σ', call_ok (lt "_law_heard" f_law_heard rfl) rfl (ex_try_ok ((ev_meth (ev_loc rfl) st.inst rfl (ev_acons (ev_loc rfl) ev_anil)).trans e)), st', kp⟩
theorem heard_bad (lt : LT tbl) {N : Nat} {ts : List PV} {k : Nat} {d s s' : Int} {x : String} (h : Fails tbl w N ".choice" [.int s] ts k d x s') (hn : N + 1 ≤ n) {σ : Hp} {p t : Nat} (st : PSt σ p t ts k d) :
    ∃ σ', callN tbl w n "_law_heard" [.obj p, .int s] σ = .ok (.tup [.str x, .int s']) σ' ∧ Keep p σ σ' := by
  obtain ⟨n, rfl⟩ : ∃ m, n = m + 1 := ⟨n - 1, by omega⟩
  obtain ⟨σ', e, kp⟩ := h n (by omega) σ p t st
  exact ⟨σ', call_ok (lt "_law_heard" f_law_heard rfl) rfl (ex_try_err ((ev_meth (ev_loc rfl) st.inst rfl (ev_acons (ev_loc rfl) ev_anil)).trans e)), kp⟩

/-- choices within one another, let -/
theorem xn_part (mt : MT tbl) (hw : 20 ≤ w) (m : Nat) : ∀ j, PartOk tbl w (7 + 4 * j) (1 + j) (xn m j).1 (xn m j).2
  | 0 => (made_name mt hw "x" _).ok
  | j + 1 => by
    have ih := xn_part mt hw m j
    have hc : PartOk tbl w (7 + 4 * j) (1 + j) [wd "true" (sp (3 * (m - j - 1)))] (.tup [.str "bool", .int (sp (3 * (m - j - 1))), .bool true]) := (made_bool mt hw (.inl rfl) _).ok.mono (by omega) (by omega)
    have := part_if (P := []) (y := wyN m j (xn m j).1 (xn m j).2) (o := Option.none) (sp := spotN m j) (se := sp (3 * m + j)) mt hw (N := 7 + 4 * j) (by omega) (by simp) ⟨hc, ih⟩ trivial (by simp)
    exact this.mono (by omega) (by omega)
theorem nested_let (mt : MT tbl) (hw : 20 ≤ w) {m : Nat} (h0 : 0 < m) (hm : m ≤ 7) {ts : List PV} {d : Int} (hd : d + (m : Int) ≤ 40) (a : At ts 0 (rowsN m)) : Does tbl w 40 ".choice" [.int 1] ts 0 d (xn m m).2 (rowsN m).length := by
  rw [rowsN_eq h0 hm] at a ⊢
  obtain ⟨j, rfl⟩ : ∃ j, m = j + 1 := ⟨m - 1, by omega⟩
  have hc : PartOk tbl w (7 + 4 * j) (1 + j) [wd "true" (sp (3 * (j + 1 - j - 1)))] (.tup [.str "bool", .int (sp (3 * (j + 1 - j - 1))), .bool true]) := (made_bool mt hw (.inl rfl) _).ok.mono (by omega) (by omega)
  have hs : spotN (j + 1) j = 1 := if_pos rfl
  have := choice_ok (P := []) (y := wyN (j + 1) j (xn (j + 1) j).1 (xn (j + 1) j).2) (o := Option.none) (sp := 1) (se := sp (3 * (j + 1) + j)) mt (N := 7 + 4 * j) (need := 1 + j) (by omega) hw (by simp) ⟨hc, xn_part mt hw (j + 1) j⟩ trivial (by simp) (d := d) (by omega) a
  rw [Nat.zero_add] at this
  refine Does.mono ?_ (show 7 + 4 * j + 1 ≤ 40 by omega)
  show Does _ _ _ _ _ _ _ _ (choV (spotN (j + 1) j) [] _ _) _
  rw [hs]
  exact this
theorem nested_deep (mt : MT tbl) (hw : 20 ≤ w) (m : Nat) : ∀ (j : Nat) {ts : List PV} {k : Nat} {d s : Int} {se : Int}, j + 1 ≤ m → d ≤ 40 → 0 ≤ d → 40 < d + ((j + 1 : Nat) : Int) → At ts k (choT [] (wyN m j (xn m j).1 (xn m j).2) Option.none se) →
    Fails tbl w (8 + 4 * j) ".choice" [.int s] ts k d "expressions are nested too deeply" (sp (3 * (m - j - 1 + (40 - d).toNat)))
  | 0, ts, k, d, s, se, hj, h1, h0, h2, a => by
    obtain rfl : d = 40 := by omega
    exact (choice_bad1 mt (N := 4) (by omega) hw ((expr_deep mt (by omega) (by omega) (At.head a)).mono (by omega))).mono (by omega)
  | j + 1, ts, k, d, s, se, hj, h1, h0, h2, a => by
    by_cases hd : d = 40
    · subst hd
      exact (choice_bad1 mt (N := 4) (by omega) hw ((expr_deep mt (by omega) (by omega) (At.head a)).mono (by omega))).mono (by omega)
    · have hc : PartOk tbl w (7 + 4 * j + 4) 1 [wd "true" (sp (3 * (m - (j + 1) - 1)))] (.tup [.str "bool", .int (sp (3 * (m - (j + 1) - 1))), .bool true]) := (made_bool mt hw (.inl rfl) _).ok.mono (by omega) (by omega)
      have a' : At ts k (wd "true" (sp (3 * (m - (j + 1) - 1))) :: wd "then" (sp (3 * (m - (j + 1) - 1) + 1)) :: ((xn m (j + 1)).1 ++ [wd "endif" se])) := by
        simpa [choT, preT, wyN, Wy.toks, othT] using a
      have a3 : At ts (k + 1 + 1) (xn m (j + 1)).1 := a'.tail.tail.left
      have hif : ts[k + 1 + 1]? = some (wd "if" (spotN m j)) := At.head a3
      have a4 := At.tail a3
      have ih := nested_deep mt hw m j (ts := ts) (k := k + 1 + 1 + 1) (d := d + 1) (s := spotN m j) (se := sp (3 * m + j)) (by omega) (by omega) (by omega) (by push_cast at h2 ⊢; omega) a4
      have hb := if_bad mt hw (N := 6 + 4 * j) hif (by omega) (ih.mono (by omega))
      have := choice_bad2 (sp := s) (st' := sp (3 * (m - (j + 1) - 1) + 1)) mt (N := 7 + 4 * j + 4) (need := 1) (by omega) hw hc (d := d) (by omega) (k := k) (by
        intro i x hx
        match i, hx with
        | 0, hx => cases hx; exact At.head a'
        | 1, hx => cases hx; exact At.head a'.tail) (hb.mono (by omega))
      rw [show m - (j + 1) - 1 + (40 - d).toNat = m - j - 1 + (40 - (d + 1)).toNat from by omega]
      exact this.mono (by omega)

/-- one of the tokens that have to stand there, taken out -/
theorem removal (mt : MT tbl) (hw : 20 ≤ w) {N need F : Nat} (hN : 4 ≤ N) (hn : need ≤ 40) {P : List (Wy × Int)} {y : Wy} {o : OthT} {se s1 s2 : Int} (cm : ChoM tbl w N need F 2 P y o se) {j : Nat} (h : ThenAt tbl w N need (choT P y o se) j ∨ j + 1 = (choT P y o se).length) {R : List PV} (hR : R = choT P y o se ++ [tok "sign" (.str ";") s1] ++ [tok "end" (.str "") s2]) :
    ∃ x kd st kd' u' s', R[j]? = some (tok kd (.str x) st) ∧ R[j + 1]? = some (tok kd' u' s') ∧ x.length ≤ 100 ∧ Fails tbl w (N + 1) ".choice" [.int 2] (R.take j ++ R.drop (j + 1)) 0 0 (x ++ " is wanted") s' := by
  rcases h with h | h
  · obtain ⟨P1, c, vc, st, kd, u, s, tl, e, hj, okP, hP, okc, hs, ht⟩ := h
    have hR' : R = (preT P1 ++ c) ++ (wd "then" st :: tok kd u s :: (tl ++ [tok "sign" (.str ";") s1] ++ [tok "end" (.str "") s2])) := by rw [hR, e]; simp
    have hj' : j = (preT P1 ++ c).length := by rw [hj]; simp
    have et : R.take j ++ R.drop (j + 1) = (preT P1 ++ c) ++ (tok kd u s :: (tl ++ [tok "sign" (.str ";") s1] ++ [tok "end" (.str "") s2])) := by
      rw [hR', hj', List.take_left', ← List.drop_drop, List.drop_left'] <;> first | rfl | skip
    refine ⟨"then", "word", st, kd, u, s, ?_, ?_, by decide, ?_⟩
    · rw [hR', hj', List.getElem?_append_right (Nat.le_refl _)]; simp
    · rw [hR', hj', List.getElem?_append_right (by omega)]; simp
    · rw [et]
      refine choice_then mt hN hw okP okc hP (by omega) hs ht fun i x hx => ?_
      rw [Nat.zero_add]
      have : (preT P1 ++ c) ++ (tok kd u s :: (tl ++ [tok "sign" (.str ";") s1] ++ [tok "end" (.str "") s2])) = (preT P1 ++ (c ++ [tok kd u s])) ++ (tl ++ [tok "sign" (.str ";") s1] ++ [tok "end" (.str "") s2]) := by simp
      rw [this, List.getElem?_append_left (List.getElem?_eq_some_iff.mp hx).1]
      exact hx
  · have hR' : R = (preT P ++ (y.toks ++ othT o)) ++ (wd "endif" se :: tok "sign" (.str ";") s1 :: [tok "end" (.str "") s2]) := by rw [hR]; simp [choT]
    have hj' : j = (preT P ++ (y.toks ++ othT o)).length := by simp [choT] at h ⊢; omega
    have et : R.take j ++ R.drop (j + 1) = (preT P ++ (y.toks ++ othT o)) ++ (tok "sign" (.str ";") s1 :: [tok "end" (.str "") s2]) := by
      rw [hR', hj', List.take_left', ← List.drop_drop, List.drop_left'] <;> first | rfl | skip
    refine ⟨"endif", "word", se, "sign", .str ";", s1, ?_, ?_, by decide, ?_⟩
    · rw [hR', hj', List.getElem?_append_right (Nat.le_refl _)]; simp
    · rw [hR', hj', List.getElem?_append_right (by omega)]; simp
    · rw [et]
      refine choice_end mt hN hw cm.okP cm.ok cm.oko cm.few (by omega) (kd := "sign") (u := .str ";") rfl rfl rfl rfl fun i x hx => ?_
      rw [Nat.zero_add]
      have : (preT P ++ (y.toks ++ othT o)) ++ (tok "sign" (.str ";") s1 :: [tok "end" (.str "") s2]) = (preT P ++ (y.toks ++ (othT o ++ [tok "sign" (.str ";") s1]))) ++ [tok "end" (.str "") s2] := by simp
      rw [this, List.getElem?_append_left (List.getElem?_eq_some_iff.mp hx).1]
      exact hx

theorem mt_of : MT (fun x => progL.lookup x) := by
  intro x d h
  have hn : lawL.lookup x = Option.none := by
    have hm : x ∈ methL.map Prod.fst := by
      have : ∀ (l : List (String × FnDef)), l.lookup x = some d → x ∈ l.map Prod.fst := by
        intro l
        induction l with
        | nil => intro h; cases h
        | cons y l ih =>
          intro h
          obtain ⟨k, v⟩ := y
          rw [List.lookup_cons] at h
          by_cases hk : x == k
          · rw [List.map_cons, beq_iff_eq.mp hk]; exact List.mem_cons_self ..
          · rw [Bool.not_eq_true] at hk; rw [hk] at h; exact List.mem_cons_of_mem _ (ih h)
      exact this _ h
    have ha : (methL.map Prod.fst).all (fun y => (lawL.lookup y).isNone) = true := by decide
    exact Option.isNone_iff_eq_none.mp (List.all_eq_true.mp ha x hm)
  show (lawL ++ methL).lookup x = some d
  rw [List.lookup_append, hn]
  exact h
theorem lt_of : LT (fun x => progL.lookup x) := by
  intro x d h
  show (lawL ++ methL).lookup x = some d
  rw [List.lookup_append, h]
  rfl
end
end Mine.L1
end
section
/-! Law 1: the law itself. -/
set_option maxRecDepth 100000
set_option linter.unusedVariables false
set_option linter.unusedSimpArgs false
namespace Mine
namespace L1
noncomputable abbrev tb : String → Option FnDef := fun x => progL.lookup x
noncomputable abbrev c80 : CF := callN tb 200 80

/-- the rows stand, and what has to stand there is known -/
structure K1 (σ : Hp) (ρ : Loc) (R offs : List PV) (a b c q r : Nat) (cells : List PV) : Prop where
  g : G σ a b c r cells R
  nd : σ[q]? = some (.list offs)
  tray : ρ "tray" = some (.obj a)
  rows : ρ "rows" = some (.obj b)
  need : ρ "needed" = some (.obj q)
theorem K1.on {σ σ' : Hp} {ρ ρ' : Loc} {R offs cells : List PV} {a b c q r : Nat} (h : K1 σ ρ R offs a b c q r cells) (hs : ∀ i, i < σ.length → σ'[i]? = σ[i]?) (h1 : ρ' "tray" = ρ "tray") (h2 : ρ' "rows" = ρ "rows") (h3 : ρ' "needed" = ρ "needed") : K1 σ' ρ' R offs a b c q r cells :=
  ⟨h.g.on fun i hi => hs i (by rcases hi with rfl | rfl | rfl; exact h.g.lta; exact h.g.ltb; exact h.g.ltc), (hs q (List.getElem?_eq_some_iff.mp h.nd).1).trans h.nd, h1.trans h.tray, h2.trans h.rows, h3.trans h.need⟩
noncomputable abbrev goneBody : PB := (.asg "shorter" (.new (.bin .add (.sliceTo (.loc "rows") (.loc "gone")) (.sliceFrom (.loc "rows") (.bin .add (.loc "gone") (.int 1)))))
      (.ifS (.cmp .ne (.call "_law_heard" (.acons (.loc "shorter") (.acons (.int 2) .anil))) (.tup (.acons (.bin .add (.sub (.sub (.loc "rows") (.loc "gone")) (.int 1)) (.str " is wanted")) (.acons (.sub (.sub (.loc "rows") (.bin .add (.loc "gone") (.int 1))) (.int 2)) .anil))))
        (.ret (.bool false)
        .nil)
        .nil
      .nil))

theorem gone_ok {sc : Option (List Int)} {σ : Hp} {ρ : Loc} {R offs cells : List PV} {a b c q r j : Nat} (h : K1 σ ρ R offs a b c q r cells) {x kd kd' : String} {st s' : Int} {u' : PV} (h1 : R[j]? = some (tok kd (.str x) st)) (h2 : R[j + 1]? = some (tok kd' u' s')) (hx : x.length ≤ 100) {N : Nat} (hN : N + 1 ≤ 80)
    (hf : Fails tb 200 N ".choice" [.int 2] (R.take j ++ R.drop (j + 1)) 0 0 (x ++ " is wanted") s') (hs : R.length ≤ 50000) :
    ∃ ρ' σ', ex c80 sc 200 goneBody (ρ.set "gone" (.int (j : Int))) σ = .ok (.next, ρ') σ' ∧ K1 σ' ρ' R offs a b c q r cells := by
  have hj : j < R.length := (List.getElem?_eq_some_iff.mp h1).1
  have k1 : K1 σ (ρ.set "gone" (.int (j : Int))) R offs a b c q r cells := h.on (fun _ _ => rfl) rfl rfl rfl
  have e0 : ev c80 sc (.bin .add (.sliceTo (.loc "rows") (.loc "gone")) (.sliceFrom (.loc "rows") (.bin .add (.loc "gone") (.int 1)))) (ρ.set "gone" (.int (j : Int))) σ = _ := ev_without k1.rows rfl k1.g.rows (by omega) hs
  have hat : (σ ++ [PO.list (R.take j)] ++ [PO.list (R.drop (j + 1))] ++ [PO.list (R.take j ++ R.drop (j + 1))])[σ.length + 2]? = some (.list (R.take j ++ R.drop (j + 1))) := by
    rw [show σ.length + 2 = (σ ++ [PO.list (R.take j)] ++ [PO.list (R.drop (j + 1))]).length from by simp, getElem_snoc]
  have hold : ∀ i, i < σ.length → (σ ++ [PO.list (R.take j)] ++ [PO.list (R.drop (j + 1))] ++ [PO.list (R.take j ++ R.drop (j + 1))])[i]? = σ[i]? := fun i hi => by
    rw [List.append_assoc, List.append_assoc, List.getElem?_append_left hi]
  have hlen : (σ ++ [PO.list (R.take j)] ++ [PO.list (R.drop (j + 1))] ++ [PO.list (R.take j ++ R.drop (j + 1))]).length = σ.length + 3 := by simp
  generalize σ ++ [PO.list (R.take j)] ++ [PO.list (R.drop (j + 1))] ++ [PO.list (R.take j ++ R.drop (j + 1))] = σ₁ at *
  obtain ⟨e1, st1⟩ := ev_new (n := 79) mt_of e0 hat (by simp; omega)
  obtain ⟨σ₂, e2, kp2⟩ := heard_bad (n := 80) lt_of hf hN st1
  have k2 : K1 σ₂ ((ρ.set "gone" (.int (j : Int))).set "shorter" (.obj σ₁.length)) R offs a b c q r cells := k1.on (fun i hi => (kp2.same i (by simp; omega) (by omega)).trans ((List.getElem?_append_left (by omega)).trans (hold i hi))) rfl rfl rfl
  refine ⟨_, σ₂, ?_, k2⟩
  rw [ex_asg e1]
  have ew : ev c80 sc (.tup (.acons (.bin .add (.sub (.sub (.loc "rows") (.loc "gone")) (.int 1)) (.str " is wanted")) (.acons (.sub (.sub (.loc "rows") (.bin .add (.loc "gone") (.int 1))) (.int 2)) .anil))) ((ρ.set "gone" (.int (j : Int))).set "shorter" (.obj σ₁.length)) σ₂ = .ok (.tup [.str (x ++ " is wanted"), .int s']) σ₂ := by
    have w1 : " is wanted".length = 10 := by decide
    refine ev_tup (ev_acons ((ev_bin ((ev_sub ((ev_sub (ev_loc k2.rows) (ev_loc rfl)).trans (subV_at k2.g.rows h1 (by omega))) rfl).trans sub_t1) rfl).trans (add_str (by rw [String.length_append]; omega)))
      (ev_acons ((ev_sub ((ev_sub (ev_loc k2.rows) ((ev_bin (ev_loc rfl) rfl).trans (add_int (by omega)))).trans (subV_at (j := j + 1) k2.g.rows h2 (by omega))) rfl).trans sub_t2) ev_anil)) (by simp)
  rw [ex_if_false (testR_eq ((ev_cmp ((ev_call (ev_acons (ev_loc rfl) (ev_acons rfl ev_anil))).trans e2) ew).trans (cmp_ne (eqV_same rfl))))]
  rfl

/-- behind the removals -/
noncomputable abbrev tail1 : PB := (.asgT ["start", "many"] (.tup (.acons (.bin .add (.int 33) (.call "_law_roll" (.acons (.loc "tray") (.acons (.int 6) .anil)))) (.acons (.bin .add (.int 1) (.call "_law_roll" (.acons (.loc "tray") (.acons (.int 7) .anil)))) .anil)))
    (.asgT ["tokens", "node"] (.call "_law_nested" (.acons (.loc "many") .anil))
    (.asg "deep_one" (.new (.loc "tokens"))
    (.asgAttr (.loc "deep_one") "depth" (.loc "start")
    (.ifS (.cmp .gt (.bin .add (.loc "start") (.loc "many")) (.int 40))
      (.ret (.cmp .eq (.call "_law_heard" (.acons (.loc "deep_one") (.acons (.int 1) .anil))) (.tup (.acons (.str "expressions are nested too deeply") (.acons (.sub (.sub (.loc "tokens") (.bin .mul (.int 3) (.bin .sub (.int 40) (.loc "start")))) (.int 2)) .anil))))
      .nil)
      .nil
    (.ret (.and (.cmp .eq (.call "_law_heard" (.acons (.loc "deep_one") (.acons (.int 1) .anil))) (.loc "node")) (.and (.cmp .eq (.attr (.loc "deep_one") "place") (.bin .sub (.len (.loc "tokens")) (.int 1))) (.cmp .eq (.attr (.loc "deep_one") "depth") (.loc "start"))))
    .nil))))))

theorem xn_flat (m : Nat) : ∀ j, PV.flat (2 + 3 * j) (xn m j).2 = true
  | 0 => rfl
  | j + 1 => by
    have ih := xn_flat m j
    have fc : PV.flat (2 + 3 * j) (.tup [.str "bool", .int (sp (3 * (m - j - 1))), .bool true]) = true := flat_mono (n := 1) rfl (by omega)
    show PV.flat (2 + 3 * j + 3) (.tup [.str "if", .int _, .tup ([] ++ [.tup [.tup [.str "bool", .int (sp (3 * (m - j - 1))), .bool true], (xn m j).2]]), .tup [.str "bool", .int _, .bool true]]) = true
    refine flat_tup.mpr fun x hx => ?_
    simp only [List.mem_cons, List.not_mem_nil, or_false] at hx
    rcases hx with rfl | rfl | rfl | rfl
    · rfl
    · rfl
    · refine flat_tup.mpr fun x hx => ?_
      simp only [List.nil_append, List.mem_cons, List.not_mem_nil, or_false] at hx
      subst hx
      refine flat_tup.mpr fun x hx => ?_
      simp only [List.mem_cons, List.not_mem_nil, or_false] at hx
      rcases hx with rfl | rfl
      · exact fc
      · exact ih
    · exact flat_mono (n := 1) rfl (by omega)
theorem rowsN_len {m : Nat} (h0 : 0 < m) : (rowsN m).length = 4 * m := by
  unfold rowsN
  rw [List.length_append, lenB, List.length_append, lenA' m h0]
  simp; omega

theorem tail_ok {sc : Option (List Int)} {σ : Hp} {ρ : Loc} {R offs cells : List PV} {a b c q r : Nat} (h : K1 σ ρ R offs a b c q r cells) (hr : r ≤ 1000) : ∃ ρ' σ', ex c80 sc 200 tail1 ρ σ = .ok (.ret (.bool true), ρ') σ' := by
  obtain ⟨i, σ₁, e₁, i0, i1, g₁, k₁⟩ := roll_ok (w := 200) (n := 79) lt_of h.g (m := 6) (by decide) (by decide) (by omega)
  obtain ⟨k, σ₂, e₂, k0, k1, g₂, k₂⟩ := roll_ok (w := 200) (n := 79) lt_of g₁ (m := 7) (by decide) (by decide) (by omega)
  obtain ⟨m, hm⟩ : ∃ m : Nat, (m : Int) = 1 + k := ⟨(1 + k).toNat, by omega⟩
  have hm0 : 0 < m := by omega
  have hm7 : m ≤ 7 := by omega
  obtain ⟨σ₃, se, e₃, a₃, l₃, k₃⟩ := nested_ok (w := 200) (n := 78) lt_of g₂ hm0 hm7
  have hlt₃ := (List.getElem?_eq_some_iff.mp a₃).1
  have hsm : (rowsN m ++ [tok "end" (.str "") se]).length ≤ 1000000 := by rw [List.length_append, rowsN_len hm0]; simp; omega
  obtain ⟨e₄, st₄⟩ := ev_new (tbl := tb) (w := 200) (n := 79) (sc := sc) (ρ := (ρ.setAll ["start", "many"] [.int (33 + i), .int (m : Int)]).setAll ["tokens", "node"] [.obj σ₂.length, (xn m m).2]) (a := .loc "tokens") mt_of (ev_loc rfl) a₃ hsm
  have st₅ := st₄.upd 0 (d' := 33 + i) ⟨by omega, by omega⟩
  have at₅ : (upd (σ₃ ++ [pobj σ₂.length 0 0]) σ₃.length σ₂.length 0 (33 + i))[σ₂.length]? = some (.list (rowsN m ++ [tok "end" (.str "") se])) := st₅.toks
  have hat : At (rowsN m ++ [tok "end" (.str "") se]) 0 (rowsN m) := fun j x hx => by rw [Nat.zero_add, List.getElem?_append_left (List.getElem?_eq_some_iff.mp hx).1]; exact hx
  have hcmp : ∀ (ρ : Loc) (σ : Hp), ρ "start" = some (.int (33 + i)) → ρ "many" = some (.int (m : Int)) → ev c80 sc (.cmp .gt (.bin .add (.loc "start") (.loc "many")) (.int 40)) ρ σ = .ok (.bool (decide (40 < 33 + i + (m : Int)))) σ := fun ρ σ h1 h2 =>
    (ev_cmp ((ev_bin (ev_loc h1) (ev_loc h2)).trans (add_int (by omega))) rfl).trans rfl
  have head : ex c80 sc 200 tail1 ρ σ = ex c80 sc 200 (.ifS (.cmp .gt (.bin .add (.loc "start") (.loc "many")) (.int 40))
      (.ret (.cmp .eq (.call "_law_heard" (.acons (.loc "deep_one") (.acons (.int 1) .anil))) (.tup (.acons (.str "expressions are nested too deeply") (.acons (.sub (.sub (.loc "tokens") (.bin .mul (.int 3) (.bin .sub (.int 40) (.loc "start")))) (.int 2)) .anil))))
      .nil)
      .nil
    (.ret (.and (.cmp .eq (.call "_law_heard" (.acons (.loc "deep_one") (.acons (.int 1) .anil))) (.loc "node")) (.and (.cmp .eq (.attr (.loc "deep_one") "place") (.bin .sub (.len (.loc "tokens")) (.int 1))) (.cmp .eq (.attr (.loc "deep_one") "depth") (.loc "start"))))
    .nil)) (((ρ.setAll ["start", "many"] [.int (33 + i), .int (m : Int)]).setAll ["tokens", "node"] [.obj σ₂.length, (xn m m).2]).set "deep_one" (.obj σ₃.length)) (upd (σ₃ ++ [pobj σ₂.length 0 0]) σ₃.length σ₂.length 0 (33 + i)) := by
    rw [ex_asgT (l := [.int (33 + i), .int (m : Int)]) (σ₁ := σ₂) (ev_tup (ev_acons ((ev_bin rfl ((ev_call (ev_acons (ev_loc h.tray) (ev_acons rfl ev_anil))).trans e₁)).trans (add_int (by omega)))
      (ev_acons (((ev_bin rfl ((ev_call (ev_acons (ev_loc h.tray) (ev_acons rfl ev_anil))).trans e₂)).trans (add_int (by omega))).trans (by rw [hm])) ev_anil)) (by simp)) rfl]
    rw [ex_asgT (l := [.obj σ₂.length, (xn m m).2]) (σ₁ := σ₃) ((ev_call (ev_acons (ev_loc rfl) ev_anil)).trans e₃) rfl]
    rw [ex_asg e₄]
    have e5 : setAttrV (.obj σ₃.length) "depth" (.int (33 + i)) (σ₃ ++ [pobj σ₂.length 0 0]) = .ok () (upd (σ₃ ++ [pobj σ₂.length 0 0]) σ₃.length σ₂.length 0 (33 + i)) := st₄.setDepth _
    exact ex_asgAttr (ev_loc rfl) (ev_loc rfl) e5
  rw [head]
  clear head e₄
  by_cases hgt : 40 < 33 + i + (m : Int)
  · obtain ⟨j, rfl⟩ : ∃ j, m = j + 1 := ⟨m - 1, by omega⟩
    have hd := nested_deep (tbl := tb) (w := 200) mt_of (by decide) (j + 1) j (ts := rowsN (j + 1) ++ [tok "end" (.str "") se]) (k := 0) (d := 33 + i) (s := 1) (se := sp (3 * (j + 1) + j)) (Nat.le_refl _) (by omega) (by omega) (by omega) (by
      have := hat; rw [rowsN_eq (m := j + 1) (by omega) hm7] at this; rw [rowsN_eq (m := j + 1) (by omega) hm7]; exact this)
    obtain ⟨σ₆, e₆, kp₆⟩ := heard_bad (n := 80) lt_of hd (by omega) st₅
    have at₆ := kp₆.at_ at₅ (by omega)
    have hl : (40 - (33 + i)).toNat < j + 1 := by omega
    have hget := rowsN_at hm7 hl [tok "end" (.str "") se]
    refine ⟨((ρ.setAll ["start", "many"] [.int (33 + i), .int ((j + 1 : Nat) : Int)]).setAll ["tokens", "node"] [.obj σ₂.length, (xn (j + 1) (j + 1)).2]).set "deep_one" (.obj σ₃.length), σ₆, ?_⟩
    rw [ex_if_true (testR_eq ((hcmp _ _ rfl rfl).trans (by rw [decide_eq_true hgt])))]
    have x1 : ∀ ρ : Loc, ρ "start" = some (.int (33 + i)) → ev c80 sc (.bin .mul (.int 3) (.bin .sub (.int 40) (.loc "start"))) ρ σ₆ = .ok (.int ((3 * (40 - (33 + i)).toNat : Nat) : Int)) σ₆ := fun ρ hρ =>
      ((ev_bin (v := .int 3) (u := .int (40 - (33 + i))) rfl ((ev_bin (v := .int 40) rfl (ev_loc hρ)).trans (sub_int (by omega)))).trans (mul_int (by omega) (by omega))).trans (by congr 2; omega)
    have x2 : ∀ ρ : Loc, ρ "start" = some (.int (33 + i)) → ρ "tokens" = some (.obj σ₂.length) → ev c80 sc (.tup (.acons (.str "expressions are nested too deeply") (.acons (.sub (.sub (.loc "tokens") (.bin .mul (.int 3) (.bin .sub (.int 40) (.loc "start")))) (.int 2)) .anil))) ρ σ₆ = .ok (.tup [.str "expressions are nested too deeply", .int (sp (3 * (40 - (33 + i)).toNat))]) σ₆ := fun ρ h1 h2 =>
      ev_tup (ev_acons rfl (ev_acons ((ev_sub ((ev_sub (ev_loc h2) (x1 ρ h1)).trans (subV_at at₆ hget hsm)) rfl).trans sub_t2) ev_anil)) (by simp)
    rw [show j + 1 - j - 1 + (40 - (33 + i)).toNat = (40 - (33 + i)).toNat from by omega] at e₆
    rw [thenK_ret (ex_ret (v := .bool true) (σ₁ := σ₆) ((ev_cmp ((ev_call (ev_acons (ev_loc rfl) (ev_acons rfl ev_anil))).trans e₆) (x2 _ rfl rfl)).trans (cmp_eq (eqV_same rfl))))]
  · have hn := nested_let (tbl := tb) (w := 200) mt_of (by decide) hm0 hm7 (d := 33 + i) (by omega) hat
    obtain ⟨σ₆, e₆, st₆, kp₆⟩ := heard_ok (n := 80) lt_of hn (by omega) st₅
    have at₆ := kp₆.at_ at₅ (by omega)
    obtain ⟨l, hlv, hfl⟩ : ∃ l, (xn m m).2 = .tup l ∧ PV.flat 60 (.tup l) = true := by
      have hf := xn_flat m m
      obtain ⟨j, rfl⟩ : ∃ j, m = j + 1 := ⟨m - 1, by omega⟩
      exact ⟨_, rfl, flat_mono hf (by omega)⟩
    refine ⟨((ρ.setAll ["start", "many"] [.int (33 + i), .int (m : Int)]).setAll ["tokens", "node"] [.obj σ₂.length, (xn m m).2]).set "deep_one" (.obj σ₃.length), σ₆, ?_⟩
    rw [ex_if_false (testR_eq ((hcmp _ _ rfl rfl).trans (by rw [decide_eq_false hgt])))]
    have c1 : ev c80 sc (.cmp .eq (.call "_law_heard" (.acons (.loc "deep_one") (.acons (.int 1) .anil))) (.loc "node")) (((ρ.setAll ["start", "many"] [.int (33 + i), .int (m : Int)]).setAll ["tokens", "node"] [.obj σ₂.length, (xn m m).2]).set "deep_one" (.obj σ₃.length)) (upd (σ₃ ++ [pobj σ₂.length 0 0]) σ₃.length σ₂.length 0 (33 + i)) = .ok (.bool true) σ₆ :=
      (ev_cmp ((ev_call (ev_acons (ev_loc rfl) (ev_acons rfl ev_anil))).trans e₆) (ev_loc (v := (xn m m).2) rfl)).trans (cmp_eq (by rw [hlv]; exact eqV_same hfl))
    rw [ex_ret (v := .bool true) (σ₁ := σ₆) ((ev_and_t c1).trans ((ev_and_t ((ev_cmp ((ev_attr (ev_loc (v := .obj σ₃.length) rfl)).trans st₆.place) ((ev_bin (ev_lenL (ev_loc (v := .obj σ₂.length) rfl) at₆) rfl).trans (sub_int (by omega)))).trans (cmp_eq (eqV_int (by rw [List.length_append]; show _ = (((rowsN m).length + 1 : Nat) : Int) - 1; omega))))).trans ((ev_cmp ((ev_attr (ev_loc (v := .obj σ₃.length) rfl)).trans st₆.depth) (ev_loc (v := .int (33 + i)) rfl)).trans (cmp_eq (eqV_int rfl)))))]

end L1
open L1 in
theorem law1 (ns : List Int) (h : ns.length ≤ 63) : ∃ ρ σ, ex (callN (fun x => L1.progL.lookup x) 200 80) (some ns) 200 L1.f_law.body Loc.empty [] = .ok (.ret (.bool true), ρ) σ := by
  show ∃ ρ σ, ex c80 (some ns) 200 L1.f_law.body Loc.empty [] = .ok (.ret (.bool true), ρ) σ
  have g0 : G [PO.rlist ((ns.take 50).map fun i => .int (Int.fmod (i.natAbs : Int) 1000003)), .dict [("cells", .obj 0), ("roll", .int ((0 : Nat) : Int))], .list [], .list []] 1 2 0 0 ((ns.take 50).map fun i => .int (Int.fmod (i.natAbs : Int) 1000003)) [] :=
    ⟨rfl, rfl, rfl, fun v hv => by obtain ⟨i, _, rfl⟩ := List.mem_map.mp hv; exact ⟨_, rfl⟩, by simp; omega, by simp, by simp⟩
  obtain ⟨P, y, o, se, σ₁, r₁, offs, e₁, g₁, hr₁, hs₁, _, _, hq₁, cm, ho, hoffs⟩ := chosen2 (tbl := tb) (w := 200) mt_of lt_of (by decide) 80 (by decide) _ 1 2 0 3 0 _ [] [] 2 g0 rfl (by decide) (by decide) (by decide) (by decide)
  rw [List.nil_append] at g₁ hq₁
  obtain ⟨s1, σ₂, e₂, _, g₂, k₂⟩ := laid_ok (w := 200) (n := 79) lt_of g₁ "sign" (.str ";") (by omega)
  obtain ⟨s2, σ₃, e₃, _, g₃, k₃⟩ := laid_ok (w := 200) (n := 79) lt_of g₂ "end" (.str "") (by simp; omega)
  have hq₃ : σ₃[3]? = some (.list offs) := (k₂.trans k₃).at_ hq₁ (by decide) (by decide)
  generalize hR : choT P y o se ++ [tok "sign" (.str ";") s1] ++ [tok "end" (.str "") s2] = R at *
  have hRl : R.length = (choT P y o se).length + 2 := by rw [← hR]; simp
  have hlo : ev c80 (some ns) (.listOf (.loc "rows")) (((Loc.empty.setAll ["tray", "rows", "needed"] [.obj 1, .obj 2, .obj 3]).set "due" (choV 2 P y o)).set "behind_it" (.int ((choT P y o se).length : Int))) σ₃ = .ok (.obj σ₃.length) (σ₃ ++ [.list R]) := ev_listOfL (ev_loc rfl) g₃.rows
  obtain ⟨e₄, st₄⟩ := ev_new (n := 79) mt_of hlo (getElem_snoc _ _) (by omega)
  have hat : At R 0 (choT P y o se) := fun i x hx => by
    rw [Nat.zero_add, ← hR, List.append_assoc, List.getElem?_append_left (List.getElem?_eq_some_iff.mp hx).1]; exact hx
  have hd := choice_ok (tbl := tb) (w := 200) (sp := 2) mt_of (N := 16) (need := 3) (by decide) (by decide) cm.okP cm.ok cm.oko cm.few (d := 0) (by decide) hat
  obtain ⟨σ₅, e₅, st₅, kp₅⟩ := heard_ok (n := 80) lt_of hd (by decide) st₄
  rw [Nat.zero_add] at st₅
  have K : K1 σ₅ ((((Loc.empty.setAll ["tray", "rows", "needed"] [.obj 1, .obj 2, .obj 3]).set "due" (choV 2 P y o)).set "behind_it" (.int ((choT P y o se).length : Int))).set "parser" (.obj (σ₃ ++ [PO.list R]).length)) R offs 1 2 0 3 r₁ ((ns.take 50).map fun i => .int (Int.fmod (i.natAbs : Int) 1000003)) := by
    have K0 : K1 σ₃ ((((Loc.empty.setAll ["tray", "rows", "needed"] [.obj 1, .obj 2, .obj 3]).set "due" (choV 2 P y o)).set "behind_it" (.int ((choT P y o se).length : Int))).set "parser" (.obj (σ₃ ++ [PO.list R]).length)) R offs 1 2 0 3 r₁ ((ns.take 50).map fun i => .int (Int.fmod (i.natAbs : Int) 1000003)) := ⟨g₃, hq₃, rfl, rfl, rfl⟩
    exact K0.on (fun i hi => (kp₅.same i (by simp; omega) (by simp; omega)).trans (by rw [List.append_assoc, List.getElem?_append_left hi])) rfl rfl rfl
  have fl : PV.flat 60 (choV 2 P y o) = true := flat_mono cm.flat (by decide)
  -- the loop over what has to stand there
  obtain ⟨ρ₆, σ₆, e₆, K₆⟩ := loopI_all (x := "gone") (o := 3) (body := ex c80 (some ns) 200 goneBody) (fun ρ σ => K1 σ ρ R offs 1 2 0 3 r₁ ((ns.take 50).map fun i => .int (Int.fmod (i.natAbs : Int) 1000003))) offs (fun ρ σ k => k.nd) (fun v hv ρ σ k => by
    obtain ⟨j, rfl, hj⟩ := hoffs v hv
    rw [List.length_nil, Nat.zero_add]
    obtain ⟨x, kd, st, kd', u', s', h1, h2, hx, hf⟩ := removal (tbl := tb) (w := 200) mt_of (by decide) (by decide) (by decide) cm hj hR.symm
    exact gone_ok k h1 h2 hx (by decide) hf (by omega)) 200 0 _ _ (by omega) (Nat.zero_le _) K
  obtain ⟨ρ₇, σ₇, e₇⟩ := tail_ok (sc := some ns) K₆ (by omega)
  refine ⟨ρ₇, σ₇, ?_⟩
  unfold L1.f_law
  rw [ex_asgT (l := [.obj 1, .obj 2, .obj 3]) (σ₁ := [PO.rlist ((ns.take 50).map fun i => .int (Int.fmod (i.natAbs : Int) 1000003)), .dict [("cells", .obj 0), ("roll", .int ((0 : Nat) : Int))], .list [], .list []]) rfl rfl]
  rw [ex_asg ((ev_call (ev_acons (ev_loc rfl) (ev_acons (ev_loc rfl) (ev_acons rfl (ev_acons rfl (ev_acons (ev_loc rfl) ev_anil)))))).trans e₁)]
  rw [ex_asg (ev_lenL (ev_loc rfl) g₁.rows)]
  rw [ex_expr ((ev_call (ev_acons (ev_loc rfl) (ev_acons rfl (ev_acons rfl ev_anil)))).trans e₂)]
  rw [ex_expr ((ev_call (ev_acons (ev_loc rfl) (ev_acons rfl (ev_acons rfl ev_anil)))).trans e₃)]
  rw [ex_asg e₄]
  have c1 : ev c80 (some ns) (.cmp .ne (.call "_law_heard" (.acons (.loc "parser") (.acons (.int 2) .anil))) (.loc "due")) ((((Loc.empty.setAll ["tray", "rows", "needed"] [.obj 1, .obj 2, .obj 3]).set "due" (choV 2 P y o)).set "behind_it" (.int ((choT P y o se).length : Int))).set "parser" (.obj (σ₃ ++ [PO.list R]).length)) (σ₃ ++ [PO.list R] ++ [pobj σ₃.length 0 0]) = .ok (.bool false) σ₅ :=
    (ev_cmp ((ev_call (ev_acons (ev_loc rfl) (ev_acons rfl ev_anil))).trans e₅) (ev_loc (v := choV 2 P y o) rfl)).trans (cmp_ne (eqV_same fl))
  rw [ex_if_false (σ₁ := σ₅) (testR_eq ((ev_or_f c1).trans ((ev_or_f ((ev_cmp ((ev_attr (ev_loc rfl)).trans st₅.place) (ev_loc rfl)).trans (cmp_ne (eqV_int rfl)))).trans ((ev_cmp ((ev_attr (ev_loc rfl)).trans st₅.depth) rfl).trans rfl))))]
  rw [ex_forL (ev_loc rfl) e₆]
  exact e₇
end Mine
end
section
open PySem PySem.W PySem.Calls PyProof.Rows
set_option maxRecDepth 100000
set_option maxHeartbeats 8000000
local macro_rules | `(tactic| k_qdec) => `(tactic| decide +kernel)
theorem PySem.Challenge.cw_pq0374_01_holds : PySem.Challenge.rw_pq0374_01.Holds := by
  w_on
  refine holds_law (by kernel_rfl) fun said => ?_
  refine holds_open (q := Mine.qv) (loose := Mine.lo) (Xt := Mine.Xt) (XP := XL Mine.qv []) (Yf := Hook.obs Mine.hk) (Ya := Hook.val Mine.hk) (YP := Hook.says Mine.hk) (N := 6102) Mine.left (Hook.of Mine.hk) (Hook.keeps Mine.hk) (fun s e => xl_of s (Bool.and_eq_true_iff.mp e).1) XL.keeps (by rfl) (by rfl) (by rfl) (fun s e => recFacts_of (Bool.and_eq_true_iff.mp e).2) (by first | rfl | fail "no") (by first | assumption | decide +kernel) (by decide +kernel) ⟨rfl, rfl, rfl, rfl, rfl, by decide +kernel⟩ ?hw ?hc
  case hw => w_witness2
  k_fill
  intro w s₀ s₁ mg mb G Y fa o pm cd doc dV kV ho hd hcd hD hmg hg args vals as hpre hlay hrd hwl hlo
  have KX := kIn_of Y
  k_behind G ho hd hcd hD hmg hpre hlay hrd hwl hlo cd
  have hlen : ∀ {ns : List Int}, ¬ ((63 : Nat) : Int) < (ns.length : Int) → ns.length ≤ 63 := fun h => by omega
  refine Mine.join (c := ⟨_, w, _, s₁.heap, 312, 81, _, _, mg, mb⟩) (L := Mine.L1.progL) (fns := Mine.L1.lawNames) (ms := Mine.methNames) (fF := 30) (fS := 59) (FE := 40) (SF := 69) (lawD := Mine.L1.f_law) (w := 200)
    (Mine.defsOk_of ?a1 ?a2 ?a3 ?a4 ?a5 ?a6 ⟨_, rfl⟩) KX (topRead_of (by assumption)) (by assumption) rfl rfl (by assumption) (by assumption) (Nat.le_trans (hlen (by assumption)) (by decide)) ?b1 ?b2 (Mine.law1 _ (hlen (by assumption))) ?c
  case a1 => kernel_rfl
  case a2 => kernel_rfl
  case a3 => kernel_rfl
  case a4 => kernel_rfl
  case a5 => kernel_rfl
  case a6 => kernel_rfl
  case b1 => kernel_rfl
  case b2 => kernel_rfl
  case c =>
    intro h' tk m' F'
    refine goodW_bool F' hg (fun _ => rfl) ?_
    wrow_post
end
